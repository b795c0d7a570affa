import Derived.Test.YtfpmfaelodfecaaQFnMachineWordx0
import Derived.Test.YtfpmfaelodfecaaQFnMachineWordx2
import Derived.Test.YtfpmfaelodfecaaQFnMachineWordx3
import Derived.Test.YtfpmfaelodfecaaQFnMachineWordx4
import Derived.Test.YtfpmfaelodfecaaVMSh2
namespace Go.Proofs.Ytfpmfaelodfecaa.QFnMachineWord
open Go.RowKit Go.Proofs.YtfpmfaelodfecaaW.PrintWords Go.Proofs.YtfpmfaelodfecaaW.PrintLast Go.Proofs.YtfpmfaelodfecaaW.PrintMore Go.Proofs.Ytfpmfaelodfecaa.Sh
attribute [local go_sem] max2_int min2_int max_two min_two max_three min_three max_four min_four   -- for this text's walks alone
set_option linter.unusedVariables false
set_option linter.unusedSimpArgs false
-- shrunk

/-! ### impl_MachineWord: function 36 -/
mutual
def impl_MachineWord.j0 : Nat → List (S94) → Int → List Int → Bool → Option (ByteArray)
 | 0, _, _, _, _ => none
 | k + 1, x0, x1, x5, x27 => if x27 = true then (some (⟨#[]⟩ : ByteArray)) else (impl_MachineWord.l0 k x0 x1 x5 (([] : List Int)) 0)
def impl_MachineWord.l0 : Nat → List (S94) → Int → List Int → List Int → Int → Option (ByteArray)
 | 0, _, _, _, _, _ => none
 | k + 1, x0, x1, x5, x6, x7 => if 0 ≤ x7 then (if x7 < (x0.length : Int) then (if (rd_T94 x0 x7).f0 = true then (if x1 = 0 then (some (strOfNums x6)) else (impl_MachineWord.j2 k x0 (wrap64 (x1 - 1)) x5 x6 x7)) else (impl_MachineWord.j2 k x0 x1 x5 x6 x7)) else (none)) else (none)
def impl_MachineWord.j2 : Nat → List (S94) → Int → List Int → List Int → Int → Option (ByteArray)
 | 0, _, _, _, _, _ => none
 | k + 1, x0, x1, x5, x6, x7 => if 0 ≤ x7 then (if x7 < (x0.length : Int) then (impl_MachineWord.l1 k x0 x1 x5 x6 x7 ((rd_T94 x0 x7).f1) (((rd_T94 x0 x7).f1).length : Int) 0) else (none)) else (none)
def impl_MachineWord.l1 : Nat → List (S94) → Int → List Int → List Int → Int → List (S100) → Int → Int → Option (ByteArray)
 | 0, _, _, _, _, _, _, _, _ => none
 | k + 1, x0, x1, x5, x6, x7, x44, x45, x46 => if x46 < x45 then (if 0 ≤ x46 then (if x46 < (x44.length : Int) then (if 0 ≤ ((rd_T100 x44 x46).f1) then (if ((rd_T100 x44 x46).f1) < (x5.length : Int) then (if x1 < (rd x5 ((rd_T100 x44 x46).f1)) then (if x6.length < 140737488355328 then (impl_MachineWord.l0 k x0 x1 x5 (x6 ++ [((rd_T100 x44 x46).f0) % 256]) ((rd_T100 x44 x46).f1)) else (none)) else (impl_MachineWord.l1 k x0 (wrap64 (x1 - (rd x5 ((rd_T100 x44 x46).f1)))) x5 x6 x7 x44 x45 (wrap64 (x46 + 1)))) else (none)) else (none)) else (none)) else (none)) else (impl_MachineWord.l0 k x0 x1 x5 x6 x7)
end
def impl_MachineWord.f (k : Nat) (l0 : List (S94)) (a1 : Int) : Option (ByteArray) := (impl_MachineOk.f k l0).bind fun t136 => (if t136 = true then ((impl_counts.f k l0).bind fun t137 => (if 0 < (t137.length : Int) then (if (rd t137 0) = 1000000000 then (impl_MachineWord.j0 k l0 a1 t137 true) else ((impl_within.f a1 0 (wrap64 ((rd t137 0) - 1))).bind fun t142 => (impl_MachineWord.j0 k l0 a1 t137 (!t142)))) else (none))) else (some (⟨#[]⟩ : ByteArray)))
set_option maxHeartbeats 8000000 in
set_option maxRecDepth 100000 in
theorem impl_MachineWord.calls (k : Nat) (A0 : Option Addr) (c0 : Nat) (l0 : List (S94)) (a1 : Int) (r : ByteArray) (w : World) (hr0 : Kd.C k94 w A0 l0.length l0) (hc0 : l0.length ≤ c0) (h : impl_MachineWord.f k l0 a1 = some r) :
  Calls Try.prog 36 #[.slice A0 l0.length c0, .int .i64 a1] w fun e w' => e = .returned (.string r) ∧ Below w.heap.size w w' := by
 have hu100 := Try.underlying100; have HR0 := am hr0; have HC0 := am hc0; clear hr0 hc0; have HB := am (Below.refl w.heap.size w)
 have H : ((impl_MachineOk.f k l0).bind fun t136 => (if t136 = true then ((impl_counts.f k l0).bind fun t137 => (if 0 < (t137.length : Int) then (if (rd t137 0) = 1000000000 then (impl_MachineWord.j0 k l0 a1 t137 true) else ((impl_within.f a1 0 (wrap64 ((rd t137 0) - 1))).bind fun t142 => (impl_MachineWord.j0 k l0 a1 t137 (!t142)))) else (none))) else (some (⟨#[]⟩ : ByteArray)))) = some r := h
 clear h; replace H := Option.bind_eq_some_iff.mp H; obtain ⟨t136, A30, H⟩ := H; replace H : (if t136 = true then ((impl_counts.f k l0).bind fun t137 => (if 0 < (t137.length : Int) then (if (rd t137 0) = 1000000000 then (impl_MachineWord.j0 k l0 a1 t137 true) else ((impl_within.f a1 0 (wrap64 ((rd t137 0) - 1))).bind fun t142 => (impl_MachineWord.j0 k l0 a1 t137 (!t142)))) else (none))) else (some (⟨#[]⟩ : ByteArray))) = some r := H; have A3 := Aside0.mk A30; clear A30
 by_cases c4 : t136 = true
 ·subst c4
  have H1 : ((impl_counts.f k l0).bind fun t137 => (if 0 < (t137.length : Int) then (if (rd t137 0) = 1000000000 then (impl_MachineWord.j0 k l0 a1 t137 true) else ((impl_within.f a1 0 (wrap64 ((rd t137 0) - 1))).bind fun t142 => (impl_MachineWord.j0 k l0 a1 t137 (!t142)))) else (none))) = some r := b20_
  replace H := H1; clear H1
  replace H := Option.bind_eq_some_iff.mp H; obtain ⟨t137, A50, H⟩ := H; replace H : (if 0 < (t137.length : Int) then (if (rd t137 0) = 1000000000 then (impl_MachineWord.j0 k l0 a1 t137 true) else ((impl_within.f a1 0 (wrap64 ((rd t137 0) - 1))).bind fun t142 => (impl_MachineWord.j0 k l0 a1 t137 (!t142)))) else (none)) = some r := H; have A5 := Aside0.mk A50; clear A50; have HC6 := am H; clear H; go_enter Try.func36, Try.ntmps36
  go_upto_region 4 with (first | ((with_reducible refine gate_callee (f := 44) rfl ?_); refine goesL_ (some 11) rfl rfl Try.func44 (by kernel_rfl) rfl #[.slice A0 l0.length c0] rfl mq ?_; (with_reducible refine (impl_MachineOk.calls k _ _ l0 true _ ?side1 ?side2 A3.out).mono ?_); (case side1 => repeat (first | exact HR0.out | (with_reducible refine Kd.C_alloc ?_ _) | (with_reducible refine Kd.C_drewN ?_ _) | (with_reducible refine Kd.C_drew ?_))); (case side2 => exact HC0.out); rintro e w7 ⟨rfl, hb⟩; refine ⟨_, rfl, ?_⟩; replace HB := am (below_step bel hb); (try clear hb); (try clear hb2); (try clear hk); (try clear hi)) | ((with_reducible refine gate_callee (f := 80) rfl ?_); refine goesL_ (some 14) rfl rfl Try.func80 (by kernel_rfl) rfl #[.slice A0 l0.length c0] rfl mq ?_; (with_reducible refine (impl_counts.calls k _ _ l0 t137 _ ?side1 ?side2 A5.out).mono ?_); (case side1 => exact cq (Kd.C_below HR0.out HB.out)); (case side2 => exact HC0.out); rintro e w8 ⟨v138, rfl, ho0, hb⟩; refine ⟨_, rfl, ?_⟩; have HO139 := am (Kd.R_lower ho0 (below_size bel)); replace HB := am (below_step bel hb); (try clear hb); (try clear hb2); (try clear hk); (try clear hi); (try clear ho0)))
  (try simp only [Act.put, List.setIfInBounds_toArray, List.set_cons_zero, List.set_cons_succ])
  go_cut [27] (fun v27 wc => ∃ (kq : Nat) (x27_5 : Bool), v27 = .bool x27_5 ∧ Aside0 (impl_MachineWord.j0 kq l0 a1 t137 x27_5 = some r) ∧ Aside0 (kq ≤ k) ∧ Aside0 (Kd.R (Kd.int .i64) 3 wc w.heap.size (fun _ => True) v138 t137) ∧ Aside0 (Below w.heap.size w wc))
  case first =>
   have H := HC6.out; clear HC6
   by_cases c9 : 0 < (t137.length : Int)
   ·rw [if_pos c9] at H; have c9b0 := decide_eq_true c9
    have c9b1 : decide (0 < t137.length) = true := decide_eq_true (by omega)
    clear c9
    (first | rw [c9b0] | (simp only [i64_w, i32_w]; rw [c9b0]) | skip)
    by_cases c10 : (rd t137 0) = 1000000000
    ·rw [if_pos c10] at H
     have c10b0 : ((rd t137 0) == 1000000000) = true := beq_iff_eq.mpr c10
     have c10b1 : ((rd t137 0) != 1000000000) = false := bne_eq_false_iff_eq.mpr c10
     clear c10
     have H' := am H
     clear H; obtain ⟨Ao11, co11, eo11⟩ := Kd.R_slice HO139.out; subst eo11
     have p140 : 0 ≤ (0 : Int) := (by omega)
     have q140 : 0 < (t137.length : Int) := of_decide_eq_true ad
     obtain ⟨ad140, e140, hx140_0⟩ := Kd.at_int (Kd.R_reads' HO139.out).2.2 0 p140 q140
     cases e140
     have qi140 : (0 < t137.length) = True := eq_true (by omega)
     (try rw [show ((0 : Int)).toNat = 0 from rfl] at hx140_0)
     (try rw [Addr.add_zero'] at hx140_0)
     replace p140 := eq_true p140; replace q140 := eq_true q140; go_wp2
     go_meet
     case rel => exact ⟨_, (true), sq, H', ⟨b74_⟩, ⟨rq HO139.out⟩, ⟨bel⟩⟩
    ·rw [if_neg c10] at H
     have c10b0 : ((rd t137 0) == 1000000000) = false := beq_eq_false_iff_ne.mpr c10
     have c10b1 : ((rd t137 0) != 1000000000) = true := bne_iff_ne.mpr c10
     replace H := Option.bind_eq_some_iff.mp H; obtain ⟨t142, A120, H⟩ := H; replace H : (impl_MachineWord.j0 k l0 a1 t137 (!t142)) = some r := H; have A12 := Aside0.mk A120; clear A120
     have H' := am H
     clear H; obtain ⟨Ao13, co13, eo13⟩ := Kd.R_slice HO139.out; subst eo13
     have p140 : 0 ≤ (0 : Int) := (by omega)
     have q140 : 0 < (t137.length : Int) := of_decide_eq_true ad
     obtain ⟨ad140, e140, hx140_0⟩ := Kd.at_int (Kd.R_reads' HO139.out).2.2 0 p140 q140
     cases e140
     have qi140 : (0 < t137.length) = True := eq_true (by omega)
     (try rw [show ((0 : Int)).toNat = 0 from rfl] at hx140_0)
     (try rw [Addr.add_zero'] at hx140_0)
     replace p140 := eq_true p140; replace q140 := eq_true q140
     have p141 : 0 ≤ (0 : Int) := (by omega)
     have q141 : 0 < (t137.length : Int) := of_decide_eq_true ad
     obtain ⟨ad141, e141, hx141_0⟩ := Kd.at_int (Kd.R_reads' HO139.out).2.2 0 p141 q141
     obtain rfl : ad140 = ad141 := (by injection e141)
     have qi141 : (0 < t137.length) = True := eq_true (by omega)
     (try rw [show ((0 : Int)).toNat = 0 from rfl] at hx141_0)
     (try rw [Addr.add_zero'] at hx141_0)
     replace p141 := eq_true p141; replace q141 := eq_true q141
     go_wp2_with (first | (go_at_call 81; (with_reducible refine (impl_within.calls a1 0 (wrap64 ((rd t137 0) - 1)) t142 _ A12.out).mono ?_); rintro e w' ⟨rfl, ⟨nd, rfl⟩⟩))
     go_meet
     case rel => exact ⟨_, (!t142), sq, H', ⟨b74_⟩, ⟨rq HO139.out⟩, ⟨bel⟩⟩
   ·rw [if_neg c9] at H
    exact absurd H (by simp)
  case rest =>
   clear HC6; (try clear c1); (try clear p1); (try clear q1); (try clear hx1); (try clear qi1); (try clear p2); (try clear c3); (try clear c4); (try clear p6); (try clear c8); (try clear c9); (try clear c9b0); (try clear c9b1); (try clear c10); (try clear c10b0); (try clear c10b1); (try clear hx140_0); (try clear hx141_0); (try clear p140); (try clear p141); (try clear q140); (try clear q141); obtain ⟨kq, x27_5, rfl, HA, HJ5, HO_5, HB⟩ := hcut
   cases kq with
   | zero => exact absurd HA.out (by simp [impl_MachineWord.j0])
   | succ kj5 =>
    have H := HA.out; clear HA
    simp only [impl_MachineWord.j0] at H
    by_cases c14 : x27_5 = true
    ·subst c14
     have H1 : (some (⟨#[]⟩ : ByteArray)) = some r := b20_
     replace H := H1; clear H1
     obtain rfl := Option.some.inj H; go_wp2; go_ret
     exact ⟨eq_, bel⟩
    ·replace c14 := Bool.eq_false_iff.mpr c14; subst c14
     have H1 : (impl_MachineWord.l0 kj5 l0 a1 t137 (([] : List Int)) 0) = some r := b6_
     replace H := H1; clear H1
     obtain ⟨y143, hy143⟩ : ∃ y_ : List Int, y_ = (([] : List Int)) := ⟨_, rfl⟩
     replace H : (impl_MachineWord.l0 kj5 l0 a1 t137 y143 0) = some r := by first | (rw [hy143]; with_reducible exact H) | (have H2_ := (Option.bind_some _ _).symm.trans H; rw [hy143]; with_reducible exact H2_) | (have H2_ := (Option.bind_some _ _).symm.trans H; with_reducible exact H2_) | with_reducible exact H | (rw [hy143]; exact H) | exact H
     have Ny143 := am hy143; clear hy143
     have H' := am H
     clear H
     go_wp2_with (first | ((with_reducible refine gate_dst (N := 28) rfl ?_); refine Kd.R_lit (Kd.int .u8) _ 5 ?hg (N := 28) ?hd (xs := ([] : List Int)) (inner := []) (ok := fun _ => True) (okp := fun _ => True) ?hr ?hp (fun _ hk => hk) trivial (Below.refl _ _) (Nat.le_refl _) (by simp) ?_; (case hd => rfl); (case hg => rfl); (case hr => first | (go_simp; done) | (go_simp; rfl)); (case hp => exact (Reps.none _ _)); intro v144 w15 ho16 hb hg_ hnew_; clear hg_ hnew_; (first | rw [← Ny143.out] at ho16 | (simp only [Int.reduceToNat] at ho16; rw [← Ny143.out] at ho16) | (simp only [Int.toNat_natCast] at ho16; rw [← Ny143.out] at ho16)); replace HO_5 := am (Kd.R_below (rq HO_5.out) hb); have HO145 := am (Kd.R_lower ho16 (below_size bel)); replace HB := am (below_step bel hb); clear hb ho16))
     go_loopg [1, 6, 7] kj5 (fun kq v1 v6 v7 w' => ∃ (x1_2 : Int) (x6_2 : List Int) (x7_2 : Int), v1 = .int .i64 x1_2 ∧ v7 = .int .i64 x7_2 ∧ Aside0 (impl_MachineWord.l0 kq l0 x1_2 t137 x6_2 x7_2 = some r) ∧ Aside0 (kq ≤ kj5) ∧ Aside0 (Kd.R (Kd.int .i64) 3 w' w.heap.size (fun _ => True) v138 t137) ∧ Aside0 (Kd.R (Kd.int .u8) 5 w' w.heap.size (fun _ => True) v6 x6_2) ∧ Aside0 (Below w.heap.size w w'))
     case atStart => exact ⟨(a1), (y143), (0), sq, sq, H', ⟨Nat.le_refl _⟩, ⟨rq HO_5.out⟩, ⟨rq HO145.out⟩, ⟨bel⟩⟩
     case round =>
      clear H'; (try clear c1); (try clear p1); (try clear q1); (try clear hx1); (try clear qi1); (try clear p2); (try clear c3); (try clear c4); (try clear p6); (try clear c8); (try clear c9); (try clear c9b0); (try clear c9b1); (try clear c10); (try clear c10b0); (try clear c10b1); (try clear c14); (try clear p14); (try clear q14); (try clear hx14); (try clear qi14); (try clear hx140_0); (try clear hx141_0); (try clear p1); (try clear p140); (try clear p141); (try clear p2); (try clear p6); (try clear q1); (try clear q140); (try clear q141); obtain ⟨x1_2, x6_2, x7_2, rfl, rfl, HA, HK2, HO_5, HO_6, HB⟩ := hrel
      cases gk with
      | zero => exact absurd HA.out (by simp [impl_MachineWord.l0])
      | succ k2 =>
       have H := HA.out; clear HA
       simp only [impl_MachineWord.l0] at H
       by_cases c17 : 0 ≤ x7_2
       ·rw [if_pos c17] at H; have c17b0 := decide_eq_true c17; clear c17
        by_cases c18 : x7_2 < (l0.length : Int)
        ·rw [if_pos c18] at H; have c18b0 := decide_eq_true c18; clear c18; have HC19 := am H; clear H
         have p146 : 0 ≤ (x7_2 : Int) := of_decide_eq_true ad
         have q146 : x7_2 < (l0.length : Int) := of_decide_eq_true ad
         obtain ⟨ad146, A146_1, c146_1, e146, hx146_0, hx146_1, hl146_1, hi146_1⟩ := at_T94 HR0.out x7_2 p146 q146
         cases e146
         replace hx146_0 := kp HB.out hx146_0; replace hx146_1 := kp HB.out hx146_1; have HR146_1 := am hi146_1; have HC146_1 := am hl146_1; clear hi146_1 hl146_1; replace p146 := eq_true p146; replace q146 := eq_true q146
         go_upto_if 33 with (fail)
         go_cut [1] (fun v1 wc => ∃ (kq : Nat) (x1_18 : Int), v1 = .int .i64 x1_18 ∧ Aside0 (impl_MachineWord.j2 kq l0 x1_18 t137 x6_2 x7_2 = some r) ∧ Aside0 (kq ≤ k2) ∧ Aside0 (Kd.R (Kd.int .i64) 3 wc w.heap.size (fun _ => True) v138 t137) ∧ Aside0 (Kd.R (Kd.int .u8) 5 wc w.heap.size (fun _ => True) u6 x6_2) ∧ Aside0 (Below w.heap.size w wc))
         case first =>
          have H := HC19.out; clear HC19; obtain ⟨bq20, hbq20⟩ : ∃ b_ : Bool, b_ = ((rd_T94 l0 x7_2).f0) := ⟨_, rfl⟩
          replace H : (if bq20 = true then (if x1_2 = 0 then (some (strOfNums x6_2)) else (impl_MachineWord.j2 k2 l0 (wrap64 (x1_2 - 1)) t137 x6_2 x7_2)) else (impl_MachineWord.j2 k2 l0 x1_2 t137 x6_2 x7_2)) = some r := by rw [← hbq20] at H; exact H
          have Nbq20 := am hbq20; clear hbq20
          (try rw [← Nbq20.out])
          by_cases c21 : bq20 = true
          ·subst c21
           have H1 : (if x1_2 = 0 then (some (strOfNums x6_2)) else (impl_MachineWord.j2 k2 l0 (wrap64 (x1_2 - 1)) t137 x6_2 x7_2)) = some r := b20_
           replace H := H1; clear H1
           by_cases c22 : x1_2 = 0
           ·rw [if_pos c22] at H
            have c22b0 : (x1_2 == 0) = true := beq_iff_eq.mpr c22
            have c22b1 : (x1_2 != 0) = false := bne_eq_false_iff_eq.mpr c22
            clear c22; obtain rfl := Option.some.inj H; have hcv23 := own_string (P := Try.prog) Try.underlying31 Try.underlying5 Try.underlying9 (Kd.own_of_R HO_6.out); go_wp2; go_ret
            exact ⟨eq_, bel⟩
           ·rw [if_neg c22] at H
            have c22b0 : (x1_2 == 0) = false := beq_eq_false_iff_ne.mpr c22
            have c22b1 : (x1_2 != 0) = true := bne_iff_ne.mpr c22
            have H' := am H
            clear H; go_wp2
            go_meet
            case rel => exact ⟨_, (wrap64 (x1_2 - 1)), sq, H', ⟨by have := HJ5.out; have := HK2.out; first | omega | exact Nat.le_refl _⟩, ⟨rq HO_5.out⟩, ⟨rq HO_6.out⟩, ⟨bel⟩⟩
          ·replace c21 := Bool.eq_false_iff.mpr c21; subst c21
           (try rw [← Nbq20.out] at hx146_0)
           (try rw [← Nbq20.out])
           have H1 : (impl_MachineWord.j2 k2 l0 x1_2 t137 x6_2 x7_2) = some r := b6_
           replace H := H1; clear H1
           have H' := am H
           clear H; go_wp2
           go_meet
           case rel => (try rw [← Nbq20.out]); exact ⟨_, (x1_2), sq, H', ⟨by have := HJ5.out; have := HK2.out; first | omega | exact Nat.le_refl _⟩, ⟨rq HO_5.out⟩, ⟨rq HO_6.out⟩, ⟨bel⟩⟩
         case rest =>
          clear HC19; (try clear c1); (try clear p1); (try clear q1); (try clear hx1); (try clear qi1); (try clear c2); (try clear p2); (try clear q2); (try clear hcv2); (try clear c3); (try clear c4); (try clear p6); (try clear c8); (try clear c9); (try clear c9b0); (try clear c9b1); (try clear c10); (try clear c10b0); (try clear c10b1); (try clear c14); (try clear p14); (try clear q14); (try clear hx14); (try clear qi14); (try clear c17); (try clear c17b0); (try clear c18); (try clear c18b0); (try clear q20); (try clear c21); (try clear c22); (try clear c22b0); (try clear c22b1); (try clear hcv23); (try clear hx140_0); (try clear hx141_0); (try clear hx146_0); (try clear hx146_1); (try clear p1); (try clear p14); (try clear p140); (try clear p141); (try clear p146); (try clear p2); (try clear p6); (try clear q1); (try clear q14); (try clear q140); (try clear q141); (try clear q146); obtain ⟨kq, x1_18, rfl, HA, HJ18, HO_5, HO_6, HB⟩ := hcut
          cases kq with
          | zero => exact absurd HA.out (by simp [impl_MachineWord.j2])
          | succ kj18 =>
           have H := HA.out; clear HA
           simp only [impl_MachineWord.j2] at H
           by_cases c24 : 0 ≤ x7_2
           ·rw [if_pos c24] at H; have c24b0 := decide_eq_true c24; clear c24
            by_cases c25 : x7_2 < (l0.length : Int)
            ·rw [if_pos c25] at H; have c25b0 := decide_eq_true c25; clear c25
             have H' := am H
             clear H
             have p147 : 0 ≤ (x7_2 : Int) := of_decide_eq_true ad
             have q147 : x7_2 < (l0.length : Int) := of_decide_eq_true ad
             obtain ⟨ad147, A147_1, c147_1, e147, hx147_0, hx147_1, hl147_1, hi147_1⟩ := at_T94 HR0.out x7_2 p147 q147
             obtain rfl : ad146 = ad147 := (by injection e147)
             replace hx147_0 := kp HB.out hx147_0; replace hx147_1 := kp HB.out hx147_1; have HR147_1 := am hi147_1; have HC147_1 := am hl147_1; clear hi147_1 hl147_1; replace p147 := eq_true p147; replace q147 := eq_true q147; go_wp2
             go_loopg [1, 6, 7, 46] kj18 (fun kq v1 v6 v7 v46 w' => ∃ (x1_4 : Int) (x6_4 : List Int) (x7_4 : Int) (x46_4 : Int), v1 = .int .i64 x1_4 ∧ v7 = .int .i64 x7_4 ∧ v46 = .int .i64 x46_4 ∧ Aside0 (impl_MachineWord.l1 kq l0 x1_4 t137 x6_4 x7_4 ((rd_T94 l0 x7_2).f1) (((rd_T94 l0 x7_2).f1).length : Int) x46_4 = some r) ∧ Aside0 (kq ≤ kj18) ∧ Aside0 (Kd.R (Kd.int .i64) 3 w' w.heap.size (fun _ => True) v138 t137) ∧ Aside0 (Kd.R (Kd.int .u8) 5 w' w.heap.size (fun _ => True) v6 x6_4) ∧ Aside0 (Below w.heap.size w w'))
             case atStart => exact ⟨(x1_18), (x6_2), (x7_2), (0), sq, sq, sq, H', ⟨Nat.le_refl _⟩, ⟨rq HO_5.out⟩, ⟨rq HO_6.out⟩, ⟨bel⟩⟩
             case round =>
              clear H'; (try clear c1); (try clear p1); (try clear q1); (try clear hx1); (try clear qi1); (try clear c2); (try clear p2); (try clear q2); (try clear hcv2); (try clear c3); (try clear c4); (try clear p6); (try clear c8); (try clear c9); (try clear c9b0); (try clear c9b1); (try clear c10); (try clear c10b0); (try clear c10b1); (try clear c14); (try clear p14); (try clear q14); (try clear hx14); (try clear qi14); (try clear c17); (try clear c17b0); (try clear c18); (try clear c18b0); (try clear q20); (try clear c21); (try clear c22); (try clear c22b0); (try clear c22b1); (try clear hcv23); (try clear c24); (try clear c24b0); (try clear c25); (try clear c25b0); (try clear hx140_0); (try clear hx141_0); (try clear hx146_0); (try clear hx146_1); (try clear hx147_0); (try clear hx147_1); (try clear p1); (try clear p14); (try clear p140); (try clear p141); (try clear p146); (try clear p147); (try clear p2); (try clear p6); (try clear q1); (try clear q14); (try clear q140); (try clear q141); (try clear q146); (try clear q147); (try clear q2); (try clear q20); obtain ⟨x1_4, x6_4, x7_4, x46_4, rfl, rfl, rfl, HA, HK4, HO_5, HO_6, HB⟩ := hrel
              cases gk with
              | zero => exact absurd HA.out (by simp [impl_MachineWord.l1])
              | succ k4 =>
               have H := HA.out; clear HA
               simp only [impl_MachineWord.l1] at H
               by_cases c26 : x46_4 < (((rd_T94 l0 x7_2).f1).length : Int)
               ·rw [if_pos c26] at H; have c26b0 := decide_eq_true c26; clear c26
                by_cases c27 : 0 ≤ x46_4
                ·rw [if_pos c27] at H; have c27b0 := decide_eq_true c27; clear c27
                 by_cases c28 : x46_4 < (((rd_T94 l0 x7_2).f1).length : Int)
                 ·rw [if_pos c28] at H; have c28b0 := decide_eq_true c28; clear c28
                  by_cases c29 : 0 ≤ ((rd_T100 ((rd_T94 l0 x7_2).f1) x46_4).f1)
                  ·rw [if_pos c29] at H; have c29b0 := decide_eq_true c29; clear c29
                   by_cases c30 : ((rd_T100 ((rd_T94 l0 x7_2).f1) x46_4).f1) < (t137.length : Int)
                   ·rw [if_pos c30] at H; have c30b0 := decide_eq_true c30; clear c30
                    by_cases c31 : x1_4 < (rd t137 ((rd_T100 ((rd_T94 l0 x7_2).f1) x46_4).f1))
                    ·rw [if_pos c31] at H; have c31b0 := decide_eq_true c31; clear c31
                     by_cases c32 : x6_4.length < 140737488355328
                     ·rw [if_pos c32] at H; have LMc32 := Aside0.mk c32; clear c32; obtain ⟨y151, hy151⟩ : ∃ y_ : List Int, y_ = (x6_4 ++ [((rd_T100 ((rd_T94 l0 x7_2).f1) x46_4).f0) % 256]) := ⟨_, rfl⟩
                      replace H : (impl_MachineWord.l0 k4 l0 x1_4 t137 y151 ((rd_T100 ((rd_T94 l0 x7_2).f1) x46_4).f1)) = some r := by first | (rw [hy151]; with_reducible exact H) | (have H2_ := (Option.bind_some _ _).symm.trans H; rw [hy151]; with_reducible exact H2_) | (have H2_ := (Option.bind_some _ _).symm.trans H; with_reducible exact H2_) | with_reducible exact H | (rw [hy151]; exact H) | exact H
                      have Ny151 := am hy151; clear hy151
                      have H' := am H
                      clear H
                      have p148 : 0 ≤ (x46_4 : Int) := of_decide_eq_true ad
                      have q148 : x46_4 < (((rd_T94 l0 x7_2).f1).length : Int) := of_decide_eq_true ad
                      obtain ⟨ad148, e148, hx148_0, hx148_1⟩ := at_T100 HR147_1.out x46_4 p148 q148
                      cases e148
                      replace hx148_0 := kp HB.out hx148_0; replace hx148_1 := kp HB.out hx148_1; replace p148 := eq_true p148; replace q148 := eq_true q148
                      go_wp2_with (first | ((with_reducible refine gate_dst (N := 9) rfl ?_); refine bx 9 (cs := #[.int .i64 0, .int .i64 0]) (t := 100) ?_; intro gb149 hg w33 hbox hb; replace HO_5 := am (Kd.R_below (rq HO_5.out) hb); replace HO_6 := am (Kd.R_below (rq HO_6.out) hb); have BK149 := am (hbox); have GW149 := am ((b13_ : w.heap.size ≤ gb149)); have GE149 := am ((b13_ : w.heap.size ≤ gb149)); replace HB := am (below_step bel hb); clear hb hbox hg; have hcz34_0 := bc BK149.out 0; have hcz34_1 := bc BK149.out 1; have hfz34_0 := bf BK149.out 0; have hfz34_1 := bf BK149.out 1; obtain ⟨Ao35, co35, eo35⟩ := Kd.R_slice HO_5.out; subst eo35; have p150 : 0 ≤ (((rd_T100 ((rd_T94 l0 x7_2).f1) x46_4).f1) : Int) := of_decide_eq_true ad; have q150 : ((rd_T100 ((rd_T94 l0 x7_2).f1) x46_4).f1) < (t137.length : Int) := of_decide_eq_true ad; obtain ⟨ad150, e150, hx150_0⟩ := Kd.at_int (Kd.R_reads' HO_5.out).2.2 ((rd_T100 ((rd_T94 l0 x7_2).f1) x46_4).f1) p150 q150; cases e150; have hn150_0 : ad150.block ≠ gb149 := Kd.own_blk (Kd.R_ne HO_5.out BK149.out (by decide)); have hn150_1 : ad150.block ≠ gb149 := Kd.own_blk (Kd.R_ne HO_5.out BK149.out (by decide)); replace hx150_0 := (cell_far (p := ⟨gb149, 0, none⟩) (by first | (rw [add_block]; exact hn150_0) | (show (Addr.add _ _).block ≠ _; rw [add_block]; exact hn150_0) | exact hn150_0) (.int .i64 ((rd_T100 ((rd_T94 l0 x7_2).f1) x46_4).f0))).trans hx150_0; replace hx150_0 := (cell_far (p := ⟨gb149, 1, none⟩) (by first | (rw [add_block]; exact hn150_1) | (show (Addr.add _ _).block ≠ _; rw [add_block]; exact hn150_1) | exact hn150_1) (.int .i64 ((rd_T100 ((rd_T94 l0 x7_2).f1) x46_4).f1))).trans hx150_0; clear hn150_0; clear hn150_1; replace p150 := eq_true p150; replace q150 := eq_true q150) | ((with_reducible refine gate_builtin (b := .append) (xs := #[.tmp 57, .tmp 61]) rfl ?_); at_builtin; refine Kd.R_append (Kd.int .u8) (w0 := w) w.heap.size rfl (.tmp 57) (.tmp 61) 31 5 (.int .u8 0) 1 rfl Try.underlying31 info5 rfl (by decide) (by omega) u6 x6_4 (((rd_T100 ((rd_T94 l0 x7_2).f1) x46_4).f0) % 256) [.int .u8 (((rd_T100 ((rd_T94 l0 x7_2).f1) x46_4).f0) % 256)] (fun _ => True) (fun _ => False) rfl (by first | (go_simp; done) | (go_simp; rfl)) ?aP (fun _ hk => hk.elim) ?aF ?aO ?aB ?aS ?aL ?_; (case aP => exact rfl); (case aB => exact (bel1 GE149.out)); (case aF => exact (fun _ _ => trivial)); (case aO => exact (rq (Kd.R_mono (Kd.R_far (p := ⟨gb149, 1, none⟩) (Kd.R_far (p := ⟨gb149, 0, none⟩) (Kd.R_types HO_6.out BK149.out (by decide)) (fun _ hk => hk.2) (.int .i64 ((rd_T100 ((rd_T94 l0 x7_2).f1) x46_4).f0))) (fun _ hk => hk.2) (.int .i64 ((rd_T100 ((rd_T94 l0 x7_2).f1) x46_4).f1))) (fun _ hk => trivial)))); (case aS => exact (below_size (bel1 GE149.out))); (case aL => have := LMc32.out; omega); intro v152 w36 ho hb hg hat; rw [← Ny151.out] at ho; replace HO_5 := am (Kd.R_over' (rq ((Kd.R_mono (Kd.R_far (p := ⟨gb149, 1, none⟩) (Kd.R_far (p := ⟨gb149, 0, none⟩) (Kd.R_types HO_5.out BK149.out (by decide)) (fun _ hk => hk.2) (.int .i64 ((rd_T100 ((rd_T94 l0 x7_2).f1) x46_4).f0))) (fun _ hk => hk.2) (.int .i64 ((rd_T100 ((rd_T94 l0 x7_2).f1) x46_4).f1))) (fun _ h_ => h_.1)))) (Kd.R_typed (rq ((Kd.R_mono (Kd.R_far (p := ⟨gb149, 1, none⟩) (Kd.R_far (p := ⟨gb149, 0, none⟩) (Kd.R_types HO_6.out BK149.out (by decide)) (fun _ hk => hk.2) (.int .i64 ((rd_T100 ((rd_T94 l0 x7_2).f1) x46_4).f0))) (fun _ hk => hk.2) (.int .i64 ((rd_T100 ((rd_T94 l0 x7_2).f1) x46_4).f1))) (fun _ h_ => h_.1))))) (by decide) hg); replace BK149 := am (blk_grown (g := gb149) (o := .cells #[.int .i64 ((rd_T100 ((rd_T94 l0 x7_2).f1) x46_4).f0), .int .i64 ((rd_T100 ((rd_T94 l0 x7_2).f1) x46_4).f1)] 100 (0, 0)) (by (with_reducible repeat (first | refine blk_drewN ?_ _ | refine blk_drew ?_ | refine blk_alloc ?_ _)); refine blk_put (cs := #[.int .i64 ((rd_T100 ((rd_T94 l0 x7_2).f1) x46_4).f0), .int .i64 0]) ?_ 1 _ rfl; (with_reducible repeat (first | refine blk_drewN ?_ _ | refine blk_drew ?_ | refine blk_alloc ?_ _)); refine blk_put (cs := #[.int .i64 0, .int .i64 0]) ?_ 0 _ rfl; (with_reducible repeat (first | refine blk_drewN ?_ _ | refine blk_drew ?_ | refine blk_alloc ?_ _)); exact BK149.out) hg (Kd.R_ne HO_6.out BK149.out (by decide))); replace HB := am (hb); have HO153 := am (ho); clear HO_6; clear ho hb hg hat; have hcz37_0 : w36.cell? ⟨gb149, 0, none⟩ = some (.int .i64 ((rd_T100 ((rd_T94 l0 x7_2).f1) x46_4).f0)) := (blk_cell BK149.out 0).trans rfl; have hcz37_1 : w36.cell? ⟨gb149, 1, none⟩ = some (.int .i64 ((rd_T100 ((rd_T94 l0 x7_2).f1) x46_4).f1)) := (blk_cell BK149.out 1).trans rfl; have hfz37_0 := bf BK149.out 0; have hfz37_1 := bf BK149.out 1))
                      go_roundg k4
                      case measure => have := HJ5.out; have := HK2.out; have := HJ18.out; have := HK4.out; omega
                      case rel => exact ⟨(x1_4), (y151), ((rd_T100 ((rd_T94 l0 x7_2).f1) x46_4).f1), sq, sq, H', ⟨b83_⟩, ⟨rq HO_5.out⟩, ⟨rq HO153.out⟩, ⟨bel1 GE149.out⟩⟩
                     ·rw [if_neg c32] at H
                      exact absurd H (by simp)
                    ·rw [if_neg c31] at H; have c31b0 := decide_eq_false c31; clear c31
                     have H' := am H
                     clear H
                     have p148 : 0 ≤ (x46_4 : Int) := of_decide_eq_true ad
                     have q148 : x46_4 < (((rd_T94 l0 x7_2).f1).length : Int) := of_decide_eq_true ad
                     obtain ⟨ad148, e148, hx148_0, hx148_1⟩ := at_T100 HR147_1.out x46_4 p148 q148
                     cases e148
                     replace hx148_0 := kp HB.out hx148_0; replace hx148_1 := kp HB.out hx148_1; replace p148 := eq_true p148; replace q148 := eq_true q148
                     go_wp2_with (first | ((with_reducible refine gate_dst (N := 9) rfl ?_); refine bx 9 (cs := #[.int .i64 0, .int .i64 0]) (t := 100) ?_; intro gb149 hg w38 hbox hb; replace HO_5 := am (Kd.R_below (rq HO_5.out) hb); replace HO_6 := am (Kd.R_below (rq HO_6.out) hb); have BK149 := am (hbox); have GW149 := am ((b13_ : w.heap.size ≤ gb149)); have GE149 := am ((b13_ : w.heap.size ≤ gb149)); replace HB := am (below_step bel hb); clear hb hbox hg; have hcz39_0 := bc BK149.out 0; have hcz39_1 := bc BK149.out 1; have hfz39_0 := bf BK149.out 0; have hfz39_1 := bf BK149.out 1; obtain ⟨Ao40, co40, eo40⟩ := Kd.R_slice HO_5.out; subst eo40; have p150 : 0 ≤ (((rd_T100 ((rd_T94 l0 x7_2).f1) x46_4).f1) : Int) := of_decide_eq_true ad; have q150 : ((rd_T100 ((rd_T94 l0 x7_2).f1) x46_4).f1) < (t137.length : Int) := of_decide_eq_true ad; obtain ⟨ad150, e150, hx150_0⟩ := Kd.at_int (Kd.R_reads' HO_5.out).2.2 ((rd_T100 ((rd_T94 l0 x7_2).f1) x46_4).f1) p150 q150; cases e150; have hn150_0 : ad150.block ≠ gb149 := Kd.own_blk (Kd.R_ne HO_5.out BK149.out (by decide)); have hn150_1 : ad150.block ≠ gb149 := Kd.own_blk (Kd.R_ne HO_5.out BK149.out (by decide)); replace hx150_0 := (cell_far (p := ⟨gb149, 0, none⟩) (by first | (rw [add_block]; exact hn150_0) | (show (Addr.add _ _).block ≠ _; rw [add_block]; exact hn150_0) | exact hn150_0) (.int .i64 ((rd_T100 ((rd_T94 l0 x7_2).f1) x46_4).f0))).trans hx150_0; replace hx150_0 := (cell_far (p := ⟨gb149, 1, none⟩) (by first | (rw [add_block]; exact hn150_1) | (show (Addr.add _ _).block ≠ _; rw [add_block]; exact hn150_1) | exact hn150_1) (.int .i64 ((rd_T100 ((rd_T94 l0 x7_2).f1) x46_4).f1))).trans hx150_0; clear hn150_0; clear hn150_1; replace p150 := eq_true p150; replace q150 := eq_true q150; have p154 : 0 ≤ (((rd_T100 ((rd_T94 l0 x7_2).f1) x46_4).f1) : Int) := of_decide_eq_true ad; have q154 : ((rd_T100 ((rd_T94 l0 x7_2).f1) x46_4).f1) < (t137.length : Int) := of_decide_eq_true ad; obtain ⟨ad154, e154, hx154_0⟩ := Kd.at_int (Kd.R_reads' HO_5.out).2.2 ((rd_T100 ((rd_T94 l0 x7_2).f1) x46_4).f1) p154 q154; obtain rfl : ad150 = ad154 := (by injection e154); have hn154_0 : ad150.block ≠ gb149 := Kd.own_blk (Kd.R_ne HO_5.out BK149.out (by decide)); have hn154_1 : ad150.block ≠ gb149 := Kd.own_blk (Kd.R_ne HO_5.out BK149.out (by decide)); replace hx154_0 := (cell_far (p := ⟨gb149, 0, none⟩) (by first | (rw [add_block]; exact hn154_0) | (show (Addr.add _ _).block ≠ _; rw [add_block]; exact hn154_0) | exact hn154_0) (.int .i64 ((rd_T100 ((rd_T94 l0 x7_2).f1) x46_4).f0))).trans hx154_0; replace hx154_0 := (cell_far (p := ⟨gb149, 1, none⟩) (by first | (rw [add_block]; exact hn154_1) | (show (Addr.add _ _).block ≠ _; rw [add_block]; exact hn154_1) | exact hn154_1) (.int .i64 ((rd_T100 ((rd_T94 l0 x7_2).f1) x46_4).f1))).trans hx154_0; clear hn154_0; clear hn154_1; replace p154 := eq_true p154; replace q154 := eq_true q154))
                     go_roundg k4
                     case measure => have := HJ5.out; have := HK2.out; have := HJ18.out; have := HK4.out; omega
                     case rel => exact ⟨(wrap64 (x1_4 - (rd t137 ((rd_T100 ((rd_T94 l0 x7_2).f1) x46_4).f1)))), (x6_4), (x7_4), (wrap64 (x46_4 + 1)), sq, sq, sq, H', ⟨b83_⟩, ⟨rq (Kd.R_mono (Kd.R_far (p := ⟨gb149, 1, none⟩) (Kd.R_far (p := ⟨gb149, 0, none⟩) (Kd.R_types HO_5.out BK149.out (by decide)) (fun _ hk => hk.2) (.int .i64 ((rd_T100 ((rd_T94 l0 x7_2).f1) x46_4).f0))) (fun _ hk => hk.2) (.int .i64 ((rd_T100 ((rd_T94 l0 x7_2).f1) x46_4).f1))) (fun _ hk => trivial))⟩, ⟨rq (Kd.R_mono (Kd.R_far (p := ⟨gb149, 1, none⟩) (Kd.R_far (p := ⟨gb149, 0, none⟩) (Kd.R_types HO_6.out BK149.out (by decide)) (fun _ hk => hk.2) (.int .i64 ((rd_T100 ((rd_T94 l0 x7_2).f1) x46_4).f0))) (fun _ hk => hk.2) (.int .i64 ((rd_T100 ((rd_T94 l0 x7_2).f1) x46_4).f1))) (fun _ hk => trivial))⟩, ⟨bel1 GE149.out⟩⟩
                   ·rw [if_neg c30] at H
                    exact absurd H (by simp)
                  ·rw [if_neg c29] at H
                   exact absurd H (by simp)
                 ·rw [if_neg c28] at H
                  exact absurd H (by simp)
                ·rw [if_neg c27] at H
                 exact absurd H (by simp)
               ·rw [if_neg c26] at H; have c26b0 := decide_eq_false c26; clear c26
                have H' := am H
                clear H; go_wp2
                go_roundg k4
                case measure => have := HJ5.out; have := HK2.out; have := HJ18.out; have := HK4.out; omega
                case rel => exact ⟨(x1_4), (x6_4), (x7_4), sq, sq, H', ⟨b83_⟩, ⟨rq HO_5.out⟩, ⟨rq HO_6.out⟩, ⟨bel⟩⟩
            ·rw [if_neg c25] at H
             exact absurd H (by simp)
           ·rw [if_neg c24] at H
            exact absurd H (by simp)
        ·rw [if_neg c18] at H
         exact absurd H (by simp)
       ·rw [if_neg c17] at H
        exact absurd H (by simp)
 ·replace c4 := Bool.eq_false_iff.mpr c4; subst c4
  have H1 : (some (⟨#[]⟩ : ByteArray)) = some r := b6_
  replace H := H1; clear H1
  obtain rfl := Option.some.inj H; go_enter Try.func36, Try.ntmps36
  go_wp2_with (first | ((with_reducible refine gate_callee (f := 44) rfl ?_); refine goesL_ (some 11) rfl rfl Try.func44 (by kernel_rfl) rfl #[.slice A0 l0.length c0] rfl mq ?_; (with_reducible refine (impl_MachineOk.calls k _ _ l0 false _ ?side1 ?side2 A3.out).mono ?_); (case side1 => repeat (first | exact HR0.out | (with_reducible refine Kd.C_alloc ?_ _) | (with_reducible refine Kd.C_drewN ?_ _) | (with_reducible refine Kd.C_drew ?_))); (case side2 => exact HC0.out); rintro e w41 ⟨rfl, hb⟩; refine ⟨_, rfl, ?_⟩; replace HB := am (below_step bel hb); (try clear hb); (try clear hb2); (try clear hk); (try clear hi)))
  go_ret
  exact ⟨eq_, bel⟩

/-! ### impl_State_step: function 84 -/
def impl_State_step.l0 : Nat → Int → List (S100) → Int → Int → Option (Int)
 | 0, _, _, _, _ => none
 | k + 1, x1, x8, x9, x10 => if x10 < x9 then (if 0 ≤ x10 then (if x10 < (x8.length : Int) then (if ((rd_T100 x8 x10).f0) = (wrap64 (x1)) then (some ((rd_T100 x8 x10).f1)) else (impl_State_step.l0 k x1 x8 x9 (wrap64 (x10 + 1)))) else (none)) else (none)) else (some (-1))
def impl_State_step.f (k : Nat) (a0_0 : Bool) (l0_1 : List (S100)) (a1 : Int) : Option (Int) := impl_State_step.l0 k a1 l0_1 (l0_1.length : Int) 0
set_option maxHeartbeats 8000000 in
set_option maxRecDepth 100000 in
theorem impl_State_step.calls (k : Nat) (a0_0 : Bool) (A0_1 : Option Addr) (c0_1 : Nat) (l0_1 : List (S100)) (a1 : Int) (r : Int) (w : World) (hr0_1 : Kd.C k100 w A0_1 l0_1.length l0_1) (hc0_1 : l0_1.length ≤ c0_1) (h : impl_State_step.f k a0_0 l0_1 a1 = some r) :
  Calls Try.prog 84 #[.agg #[.bool a0_0, .slice A0_1 l0_1.length c0_1], .int .u8 a1] w fun e w' => e = .returned (.int .i64 r) ∧ Below w.heap.size w w' := by
 have hu94 := Try.underlying94; have hu100 := Try.underlying100; have HR0_1 := am hr0_1; have HC0_1 := am hc0_1; clear hr0_1 hc0_1; have HB := am (Below.refl w.heap.size w)
 have H : (impl_State_step.l0 k a1 l0_1 (l0_1.length : Int) 0) = some r := h
 clear h
 have H' := am H
 clear H; go_enter Try.func84, Try.ntmps84
 go_wp2_with (first | ((with_reducible refine gate_dst (N := 2) rfl ?_); refine bx 2 (cs := #[.bool a0_0, .slice A0_1 l0_1.length c0_1]) (t := 94) ?_; intro gb155 hg w3 hbox hb; have BK155 := am (hbox); have GW155 := am ((b13_ : w.heap.size ≤ gb155)); have GE155 := am ((b13_ : w.heap.size ≤ gb155)); replace HB := am (below_step bel hb); clear hb hbox hg; have hcz4_0 := bc BK155.out 0; have hcz4_1 := bc BK155.out 1; have hfz4_0 := bf BK155.out 0; have hfz4_1 := bf BK155.out 1))
 go_loopg [10] k (fun kq v10 w' => ∃ (x10_1 : Int), v10 = .int .i64 x10_1 ∧ Aside0 (impl_State_step.l0 kq a1 l0_1 (l0_1.length : Int) x10_1 = some r) ∧ Aside0 (kq ≤ k) ∧ Aside0 (w'.heap[gb155]? = some (.cells #[.bool a0_0, (.slice A0_1 l0_1.length c0_1)] 94 (0, 0))) ∧ Aside0 (Below w.heap.size w w'))
 case atStart => exact ⟨(0), sq, H', ⟨Nat.le_refl _⟩, ⟨bq BK155.out⟩, ⟨bel1 GE155.out⟩⟩
 case round =>
  clear H'; (try clear p2); (try clear hcz4_0); (try clear hcz4_1); (try clear hfz4_0); (try clear hfz4_1); obtain ⟨x10_1, rfl, HA, HK1, BK155, HB⟩ := hrel
  cases gk with
  | zero => exact absurd HA.out (by simp [impl_State_step.l0])
  | succ k1 =>
   have H := HA.out; clear HA
   simp only [impl_State_step.l0] at H
   by_cases c5 : x10_1 < (l0_1.length : Int)
   ·rw [if_pos c5] at H; have c5b0 := decide_eq_true c5; clear c5
    by_cases c6 : 0 ≤ x10_1
    ·rw [if_pos c6] at H; have c6b0 := decide_eq_true c6; clear c6
     by_cases c7 : x10_1 < (l0_1.length : Int)
     ·rw [if_pos c7] at H; have c7b0 := decide_eq_true c7; clear c7
      by_cases c8 : ((rd_T100 l0_1 x10_1).f0) = (wrap64 (a1))
      ·rw [if_pos c8] at H
       have c8b0 : (((rd_T100 l0_1 x10_1).f0) == (wrap64 (a1))) = true := beq_iff_eq.mpr c8
       have c8b1 : (((rd_T100 l0_1 x10_1).f0) != (wrap64 (a1))) = false := bne_eq_false_iff_eq.mpr c8
       clear c8; obtain rfl := Option.some.inj H
       have p156 : 0 ≤ (x10_1 : Int) := of_decide_eq_true ad
       have q156 : x10_1 < (l0_1.length : Int) := of_decide_eq_true ad
       obtain ⟨ad156, e156, hx156_0, hx156_1⟩ := at_T100 HR0_1.out x10_1 p156 q156
       cases e156
       replace hx156_0 := kp HB.out hx156_0; replace hx156_1 := kp HB.out hx156_1; replace p156 := eq_true p156; replace q156 := eq_true q156
       go_wp2_with (first | ((with_reducible refine gate_dst (N := 6) rfl ?_); refine bx 6 (cs := #[.int .i64 0, .int .i64 0]) (t := 100) ?_; intro gb157 hg w9 hbox hb; have BK157 := am (hbox); have GW157 := am ((b85_ : w.heap.size ≤ gb157)); have GE157 := am ((b85_ : w.heap.size ≤ gb157)); replace HB := am (below_step (bel1 GE155.out) hb); have NB155_157 := am ((b75_ : gb155 ≠ gb157)); have NB157_155 := am ((b76_ : gb157 ≠ gb155)); replace BK155 := am (blk_below (g := gb155) (o := .cells #[.bool a0_0, .slice (some ad156) l0_1.length c0_1] 94 (0, 0)) (bq BK155.out) hb); clear hb hbox hg; have hnb10 := NB157_155.out; have hnc10 := NB155_157.out; have hcz11_0 := bc BK157.out 0; have hcz11_1 := bc BK157.out 1; have hfz11_0 := bf BK157.out 0; have hfz11_1 := bf BK157.out 1))
       go_ret
       exact ⟨eq_, bel2 GE155.out GE157.out⟩
      ·rw [if_neg c8] at H
       have c8b0 : (((rd_T100 l0_1 x10_1).f0) == (wrap64 (a1))) = false := beq_eq_false_iff_ne.mpr c8
       have c8b1 : (((rd_T100 l0_1 x10_1).f0) != (wrap64 (a1))) = true := bne_iff_ne.mpr c8
       have H' := am H
       clear H
       have p156 : 0 ≤ (x10_1 : Int) := of_decide_eq_true ad
       have q156 : x10_1 < (l0_1.length : Int) := of_decide_eq_true ad
       obtain ⟨ad156, e156, hx156_0, hx156_1⟩ := at_T100 HR0_1.out x10_1 p156 q156
       cases e156
       replace hx156_0 := kp HB.out hx156_0; replace hx156_1 := kp HB.out hx156_1; replace p156 := eq_true p156; replace q156 := eq_true q156
       go_wp2_with (first | ((with_reducible refine gate_dst (N := 6) rfl ?_); refine bx 6 (cs := #[.int .i64 0, .int .i64 0]) (t := 100) ?_; intro gb157 hg w12 hbox hb; have BK157 := am (hbox); have GW157 := am ((b85_ : w.heap.size ≤ gb157)); have GE157 := am ((b85_ : w.heap.size ≤ gb157)); replace HB := am (below_step (bel1 GE155.out) hb); have NB155_157 := am ((b75_ : gb155 ≠ gb157)); have NB157_155 := am ((b76_ : gb157 ≠ gb155)); replace BK155 := am (blk_below (g := gb155) (o := .cells #[.bool a0_0, .slice (some ad156) l0_1.length c0_1] 94 (0, 0)) (bq BK155.out) hb); clear hb hbox hg; have hnb13 := NB157_155.out; have hnc13 := NB155_157.out; have hcz14_0 := bc BK157.out 0; have hcz14_1 := bc BK157.out 1; have hfz14_0 := bf BK157.out 0; have hfz14_1 := bf BK157.out 1))
       go_roundg k1
       case measure => have := HK1.out; omega
       case rel => exact ⟨(wrap64 (x10_1 + 1)), sq, H', ⟨b61_⟩, ⟨by (with_reducible repeat (first | refine blk_drewN ?_ _ | refine blk_drew ?_ | refine blk_alloc ?_ _)); refine blk_far ?_ NB155_157.out _; (with_reducible repeat (first | refine blk_drewN ?_ _ | refine blk_drew ?_ | refine blk_alloc ?_ _)); refine blk_far ?_ NB155_157.out _; (with_reducible repeat (first | refine blk_drewN ?_ _ | refine blk_drew ?_ | refine blk_alloc ?_ _)); exact BK155.out⟩, ⟨bel2 GE155.out GE157.out⟩⟩
     ·rw [if_neg c7] at H
      exact absurd H (by simp)
    ·rw [if_neg c6] at H
     exact absurd H (by simp)
   ·rw [if_neg c5] at H; have c5b0 := decide_eq_false c5; clear c5; obtain rfl := Option.some.inj H; go_wp2; go_ret
    exact ⟨eq_, bel1 GE155.out⟩

end Go.Proofs.Ytfpmfaelodfecaa.QFnMachineWord
