import Derived.Test.YtfpmfaelodfecaaQFnMachineRankx0
import Derived.Test.YtfpmfaelodfecaaVMSh2
namespace Go.Proofs.Ytfpmfaelodfecaa.QFnMachineRank
open Go.RowKit Go.Proofs.YtfpmfaelodfecaaW.PrintWords Go.Proofs.YtfpmfaelodfecaaW.PrintLast Go.Proofs.YtfpmfaelodfecaaW.PrintMore Go.Proofs.Ytfpmfaelodfecaa.Sh
attribute [local go_sem] max2_int min2_int max_two min_two max_three min_three max_four min_four
set_option linter.unusedVariables false
set_option linter.unusedSimpArgs false
set_option maxHeartbeats 8000000
set_option maxRecDepth 100000
-- shrunk

/-! ### impl_MachineWord: function 36 -/
mutual
def impl_MachineWord.j0 : Nat → List (S94) → Int → List Int → Bool → Option (ByteArray)
 | 0, _, _, _, _ => none
 | k + 1, x0, x1, x5, x27 => if x27 = true then (some (⟨#[]⟩ : ByteArray)) else (impl_MachineWord.l0 k x0 x1 x5 (([] : List Int)) 0)
def impl_MachineWord.l0 : Nat → List (S94) → Int → List Int → List Int → Int → Option (ByteArray)
 | 0, _, _, _, _, _ => none
 | k + 1, x0, x1, x5, x6, x7 => if 0 ≤ x7 then (if x7 < (x0.length : Int) then (if (rd_T94 x0 x7).f0 = true then (if x1 = 0 then (some (strOfNums x6)) else (impl_MachineWord.j2 k x0 (wrap64 (x1 - 1)) x5 x6 x7)) else (impl_MachineWord.j2 k x0 x1 x5 x6 x7)) else (none)) else (none)
def impl_MachineWord.j2 : Nat → List (S94) → Int → List Int → List Int → Int → Option (ByteArray)
 | 0, _, _, _, _, _ => none
 | k + 1, x0, x1, x5, x6, x7 => if 0 ≤ x7 then (if x7 < (x0.length : Int) then (impl_MachineWord.l1 k x0 x1 x5 x6 x7 ((rd_T94 x0 x7).f1) (((rd_T94 x0 x7).f1).length : Int) 0) else (none)) else (none)
def impl_MachineWord.l1 : Nat → List (S94) → Int → List Int → List Int → Int → List (S100) → Int → Int → Option (ByteArray)
 | 0, _, _, _, _, _, _, _, _ => none
 | k + 1, x0, x1, x5, x6, x7, x44, x45, x46 => if x46 < x45 then (if 0 ≤ x46 then (if x46 < (x44.length : Int) then (if 0 ≤ ((rd_T100 x44 x46).f1) then (if ((rd_T100 x44 x46).f1) < (x5.length : Int) then (if x1 < (rd x5 ((rd_T100 x44 x46).f1)) then (if x6.length < 140737488355328 then (impl_MachineWord.l0 k x0 x1 x5 (x6 ++ [((rd_T100 x44 x46).f0) % 256]) ((rd_T100 x44 x46).f1)) else (none)) else (impl_MachineWord.l1 k x0 (wrap64 (x1 - (rd x5 ((rd_T100 x44 x46).f1)))) x5 x6 x7 x44 x45 (wrap64 (x46 + 1)))) else (none)) else (none)) else (none)) else (none)) else (impl_MachineWord.l0 k x0 x1 x5 x6 x7)
end
def impl_MachineWord.f (k : Nat) (l0 : List (S94)) (a1 : Int) : Option (ByteArray) := (impl_MachineOk.f k l0).bind fun t136 => (if t136 = true then ((impl_counts.f k l0).bind fun t137 => (if 0 < (t137.length : Int) then (if (rd t137 0) = 1000000000 then (impl_MachineWord.j0 k l0 a1 t137 true) else ((impl_within.f a1 0 (wrap64 ((rd t137 0) - 1))).bind fun t142 => (impl_MachineWord.j0 k l0 a1 t137 (!t142)))) else (none))) else (some (⟨#[]⟩ : ByteArray)))
theorem impl_MachineWord.calls (k : Nat) (A0 : Option Addr) (c0 : Nat) (l0 : List (S94)) (a1 : Int) (r : ByteArray) (w : World) (hr0 : Kd.C k94 w A0 l0.length l0) (hc0 : l0.length ≤ c0) (h : impl_MachineWord.f k l0 a1 = some r) :
  Calls Try.prog 36 #[.slice A0 l0.length c0, .int .i64 a1] w fun e w' => e = .returned (.string r) ∧ Below w.heap.size w w' := by
 have hu100 := Try.underlying100; have HR0 := am hr0; have HC0 := am hc0; clear hr0 hc0; have HB := am (Below.refl w.heap.size w)
 have H : ((impl_MachineOk.f k l0).bind fun t136 => (if t136 = true then ((impl_counts.f k l0).bind fun t137 => (if 0 < (t137.length : Int) then (if (rd t137 0) = 1000000000 then (impl_MachineWord.j0 k l0 a1 t137 true) else ((impl_within.f a1 0 (wrap64 ((rd t137 0) - 1))).bind fun t142 => (impl_MachineWord.j0 k l0 a1 t137 (!t142)))) else (none))) else (some (⟨#[]⟩ : ByteArray)))) = some r := h
 clear h; replace H := bs H; obtain ⟨t136, A30, H⟩ := H; replace H : (if t136 = true then ((impl_counts.f k l0).bind fun t137 => (if 0 < (t137.length : Int) then (if (rd t137 0) = 1000000000 then (impl_MachineWord.j0 k l0 a1 t137 true) else ((impl_within.f a1 0 (wrap64 ((rd t137 0) - 1))).bind fun t142 => (impl_MachineWord.j0 k l0 a1 t137 (!t142)))) else (none))) else (some (⟨#[]⟩ : ByteArray))) = some r := H; have A3 := Aside0.mk A30; clear A30
 by_cases c4 : t136 = true
 ·subst c4
  have H1 : ((impl_counts.f k l0).bind fun t137 => (if 0 < (t137.length : Int) then (if (rd t137 0) = 1000000000 then (impl_MachineWord.j0 k l0 a1 t137 true) else ((impl_within.f a1 0 (wrap64 ((rd t137 0) - 1))).bind fun t142 => (impl_MachineWord.j0 k l0 a1 t137 (!t142)))) else (none))) = some r := b21_
  replace H := H1; clear H1
  replace H := bs H; obtain ⟨t137, A50, H⟩ := H; replace H : (if 0 < (t137.length : Int) then (if (rd t137 0) = 1000000000 then (impl_MachineWord.j0 k l0 a1 t137 true) else ((impl_within.f a1 0 (wrap64 ((rd t137 0) - 1))).bind fun t142 => (impl_MachineWord.j0 k l0 a1 t137 (!t142)))) else (none)) = some r := H; have A5 := Aside0.mk A50; clear A50; have HC6 := am H; clear H; go_enter Try.func36, Try.ntmps36
  go_upto_region 4 with (first | ((with_reducible refine gate_callee (f := 44) rfl ?_); refine goesL_ (some 11) rfl rfl Try.func44 (by kernel_rfl) rfl #[.slice A0 l0.length c0] rfl mq ?_; (with_reducible refine (impl_MachineOk.calls k _ _ l0 true _ ?side1 ?side2 A3.out).mono ?_); (case side1 => repeat (first | exact HR0.out | (with_reducible refine Kd.C_alloc ?_ _) | (with_reducible refine Kd.C_drewN ?_ _) | (with_reducible refine Kd.C_drew ?_))); (case side2 => exact HC0.out); rintro e w7 ⟨rfl, hb⟩; refine ⟨_, rfl, ?_⟩; replace HB := am (below_step bel hb); (try clear hb); (try clear hb2); (try clear hk); (try clear hi)) | ((with_reducible refine gate_callee (f := 80) rfl ?_); refine goesL_ (some 14) rfl rfl Try.func80 (by kernel_rfl) rfl #[.slice A0 l0.length c0] rfl mq ?_; (with_reducible refine (impl_counts.calls k _ _ l0 t137 _ ?side1 ?side2 A5.out).mono ?_); (case side1 => exact cq (Kd.C_below HR0.out HB.out)); (case side2 => exact HC0.out); rintro e w8 ⟨v138, rfl, ho0, hb⟩; refine ⟨_, rfl, ?_⟩; have HO139 := am (Kd.R_lower ho0 (below_size bel)); replace HB := am (below_step bel hb); (try clear hb); (try clear hb2); (try clear hk); (try clear hi); (try clear ho0)))
  (try simp only [Act.put, List.setIfInBounds_toArray, List.set_cons_zero, List.set_cons_succ])
  go_cut [27] (fun v27 wc => ∃ (kq : Nat) (x27_5 : Bool), v27 = .bool x27_5 ∧ Aside0 (impl_MachineWord.j0 kq l0 a1 t137 x27_5 = some r) ∧ Aside0 (kq ≤ k) ∧ Aside0 (Kd.R (Kd.int .i64) 3 wc w.heap.size (fun _ => True) v138 t137) ∧ Aside0 (Below w.heap.size w wc))
  case first =>
   have H := HC6.out; clear HC6
   replace H := ip H; obtain ⟨c9, H⟩ := H; have c9b0 := decide_eq_true c9
   have c9b1 : decide (0 < t137.length) = true := decide_eq_true (by omega)
   clear c9
   (first | rw [c9b0] | (simp only [i64_w, i32_w]; rw [c9b0]) | skip)
   by_cases c10 : (rd t137 0) = 1000000000
   ·rw [if_pos c10] at H
    have c10b0 : ((rd t137 0) == 1000000000) = true := beq_iff_eq.mpr c10
    have c10b1 : ((rd t137 0) != 1000000000) = false := bne_eq_false_iff_eq.mpr c10
    clear c10
    have H' := am H
    clear H; obtain ⟨Ao11, co11, eo11⟩ := Kd.R_slice HO139.out; subst eo11
    have p140 : 0 ≤ (0 : Int) := (by omega)
    have q140 : 0 < (t137.length : Int) := of_decide_eq_true ad
    obtain ⟨ad140, e140, hx140_0⟩ := Kd.at_int (Kd.R_reads' HO139.out).2.2 0 p140 q140
    cases e140
    have qi140 : (0 < t137.length) = True := eq_true (by omega)
    (try rw [show ((0 : Int)).toNat = 0 from rfl] at hx140_0)
    (try rw [Addr.add_zero'] at hx140_0)
    replace p140 := eq_true p140; replace q140 := eq_true q140; go_wp2
    go_meet
    case rel => exact ⟨_, (true), sq, H', ⟨b59_⟩, ⟨rq HO139.out⟩, ⟨bel⟩⟩
   rw [if_neg c10] at H
   have c10b0 : ((rd t137 0) == 1000000000) = false := beq_eq_false_iff_ne.mpr c10
   have c10b1 : ((rd t137 0) != 1000000000) = true := bne_iff_ne.mpr c10
   replace H := bs H; obtain ⟨t142, A120, H⟩ := H; replace H : (impl_MachineWord.j0 k l0 a1 t137 (!t142)) = some r := H; have A12 := Aside0.mk A120; clear A120
   have H' := am H
   clear H; obtain ⟨Ao13, co13, eo13⟩ := Kd.R_slice HO139.out; subst eo13
   have p140 : 0 ≤ (0 : Int) := (by omega)
   have q140 : 0 < (t137.length : Int) := of_decide_eq_true ad
   obtain ⟨ad140, e140, hx140_0⟩ := Kd.at_int (Kd.R_reads' HO139.out).2.2 0 p140 q140
   cases e140
   have qi140 : (0 < t137.length) = True := eq_true (by omega)
   (try rw [show ((0 : Int)).toNat = 0 from rfl] at hx140_0)
   (try rw [Addr.add_zero'] at hx140_0)
   replace p140 := eq_true p140; replace q140 := eq_true q140
   have p141 : 0 ≤ (0 : Int) := (by omega)
   have q141 : 0 < (t137.length : Int) := of_decide_eq_true ad
   obtain ⟨ad141, e141, hx141_0⟩ := Kd.at_int (Kd.R_reads' HO139.out).2.2 0 p141 q141
   obtain rfl : ad140 = ad141 := (by injection e141)
   have qi141 : (0 < t137.length) = True := eq_true (by omega)
   (try rw [show ((0 : Int)).toNat = 0 from rfl] at hx141_0)
   (try rw [Addr.add_zero'] at hx141_0)
   replace p141 := eq_true p141; replace q141 := eq_true q141
   go_wp2_with (first | (go_at_call 81; (with_reducible refine (impl_within.calls a1 0 (wrap64 ((rd t137 0) - 1)) t142 _ A12.out).mono ?_); rintro e w' ⟨rfl, ⟨nd, rfl⟩⟩))
   go_meet
   case rel => exact ⟨_, (!t142), sq, H', ⟨b59_⟩, ⟨rq HO139.out⟩, ⟨bel⟩⟩
  case rest =>
   clear HC6; (try clear c1); (try clear p1); (try clear q1); (try clear hx1); (try clear qi1); (try clear p2); (try clear c3); (try clear c4); (try clear p6); (try clear c8); (try clear c9); (try clear c9b0); (try clear c9b1); (try clear c10); (try clear c10b0); (try clear c10b1); (try clear hx140_0); (try clear hx141_0); (try clear p140); (try clear p141); (try clear q140); (try clear q141); obtain ⟨kq, x27_5, rfl, HA, HJ5, HO_5, HB⟩ := hcut
   cases kq with
   | zero => exact absurd HA.out (by simp [impl_MachineWord.j0])
   | succ kj5 =>
    have H := HA.out; clear HA
    simp only [impl_MachineWord.j0] at H
    by_cases c14 : x27_5 = true
    ·subst c14
     have H1 : (some (⟨#[]⟩ : ByteArray)) = some r := b21_
     replace H := H1; clear H1
     obtain rfl := Option.some.inj H; go_wp2; go_ret
     exact ⟨eq_, bel⟩
    replace c14 := Bool.eq_false_iff.mpr c14; subst c14
    have H1 : (impl_MachineWord.l0 kj5 l0 a1 t137 (([] : List Int)) 0) = some r := b6_
    replace H := H1; clear H1
    obtain ⟨y143, hy143⟩ : ∃ y_ : List Int, y_ = (([] : List Int)) := ⟨_, rfl⟩
    replace H : (impl_MachineWord.l0 kj5 l0 a1 t137 y143 0) = some r := by first | (rw [hy143]; with_reducible exact H) | (have H2_ := bm H; rw [hy143]; with_reducible exact H2_) | (with_reducible exact bm H) | with_reducible exact H | (rw [hy143]; exact H) | exact H
    have Ny143 := am hy143; clear hy143
    have H' := am H
    clear H
    go_wp2_with (first | ((with_reducible refine gate_dst (N := 28) rfl ?_); refine Kd.R_lit (Kd.int .u8) _ 5 ?hg (N := 28) ?hd (xs := ([] : List Int)) (inner := []) (ok := fun _ => True) (okp := fun _ => True) ?hr ?hp (fun _ hk => hk) trivial (Below.refl _ _) (Nat.le_refl _) (by simp) ?_; (case hd => rfl); (case hg => rfl); (case hr => first | (go_simp; done) | (go_simp; rfl)); (case hp => exact (Reps.none _ _)); intro v144 w15 ho16 hb hg_ hnew_; clear hg_ hnew_; (first | rw [← Ny143.out] at ho16 | (simp only [Int.reduceToNat] at ho16; rw [← Ny143.out] at ho16) | (simp only [Int.toNat_natCast] at ho16; rw [← Ny143.out] at ho16)); replace HO_5 := am (Kd.R_below (rq HO_5.out) hb); have HO145 := am (Kd.R_lower ho16 (below_size bel)); replace HB := am (below_step bel hb); clear hb ho16))
    go_loopg [1, 6, 7] kj5 (fun kq v1 v6 v7 w' => ∃ (x1_2 : Int) (x6_2 : List Int) (x7_2 : Int), v1 = .int .i64 x1_2 ∧ v7 = .int .i64 x7_2 ∧ Aside0 (impl_MachineWord.l0 kq l0 x1_2 t137 x6_2 x7_2 = some r) ∧ Aside0 (kq ≤ kj5) ∧ Aside0 (Kd.R (Kd.int .i64) 3 w' w.heap.size (fun _ => True) v138 t137) ∧ Aside0 (Kd.R (Kd.int .u8) 5 w' w.heap.size (fun _ => True) v6 x6_2) ∧ Aside0 (Below w.heap.size w w'))
    case atStart => exact ⟨(a1), (y143), (0), sq, sq, H', ⟨Nat.le_refl _⟩, ⟨rq HO_5.out⟩, ⟨rq HO145.out⟩, ⟨bel⟩⟩
    case round =>
     clear H'; (try clear c1); (try clear p1); (try clear q1); (try clear hx1); (try clear qi1); (try clear p2); (try clear c3); (try clear c4); (try clear p6); (try clear c8); (try clear c9); (try clear c9b0); (try clear c9b1); (try clear c10); (try clear c10b0); (try clear c10b1); (try clear c14); (try clear p14); (try clear q14); (try clear hx14); (try clear qi14); (try clear hx140_0); (try clear hx141_0); (try clear p1); (try clear p140); (try clear p141); (try clear p2); (try clear p6); (try clear q1); (try clear q140); (try clear q141); obtain ⟨x1_2, x6_2, x7_2, rfl, rfl, HA, HK2, HO_5, HO_6, HB⟩ := hrel
     cases gk with
     | zero => exact absurd HA.out (by simp [impl_MachineWord.l0])
     | succ k2 =>
      have H := HA.out; clear HA
      simp only [impl_MachineWord.l0] at H
      replace H := it H; obtain ⟨c17b0, H⟩ := H
      replace H := it H; obtain ⟨c18b0, H⟩ := H; have HC19 := am H; clear H
      have p146 : 0 ≤ (x7_2 : Int) := of_decide_eq_true ad
      have q146 : x7_2 < (l0.length : Int) := of_decide_eq_true ad
      obtain ⟨ad146, A146_1, c146_1, e146, hx146_0, hx146_1, hl146_1, hi146_1⟩ := at_T94 HR0.out x7_2 p146 q146
      cases e146
      replace hx146_0 := kp HB.out hx146_0; replace hx146_1 := kp HB.out hx146_1; have HR146_1 := am hi146_1; have HC146_1 := am hl146_1; clear hi146_1 hl146_1; replace p146 := eq_true p146; replace q146 := eq_true q146
      go_upto_if 33 with (fail)
      go_cut [1] (fun v1 wc => ∃ (kq : Nat) (x1_18 : Int), v1 = .int .i64 x1_18 ∧ Aside0 (impl_MachineWord.j2 kq l0 x1_18 t137 x6_2 x7_2 = some r) ∧ Aside0 (kq ≤ k2) ∧ Aside0 (Kd.R (Kd.int .i64) 3 wc w.heap.size (fun _ => True) v138 t137) ∧ Aside0 (Kd.R (Kd.int .u8) 5 wc w.heap.size (fun _ => True) u6 x6_2) ∧ Aside0 (Below w.heap.size w wc))
      case first =>
       have H := HC19.out; clear HC19; obtain ⟨bq20, hbq20⟩ : ∃ b_ : Bool, b_ = ((rd_T94 l0 x7_2).f0) := ⟨_, rfl⟩
       replace H : (if bq20 = true then (if x1_2 = 0 then (some (strOfNums x6_2)) else (impl_MachineWord.j2 k2 l0 (wrap64 (x1_2 - 1)) t137 x6_2 x7_2)) else (impl_MachineWord.j2 k2 l0 x1_2 t137 x6_2 x7_2)) = some r := by rw [← hbq20] at H; exact H
       have Nbq20 := am hbq20; clear hbq20
       (try rw [← Nbq20.out])
       by_cases c21 : bq20 = true
       ·subst c21
        have H1 : (if x1_2 = 0 then (some (strOfNums x6_2)) else (impl_MachineWord.j2 k2 l0 (wrap64 (x1_2 - 1)) t137 x6_2 x7_2)) = some r := b21_
        replace H := H1; clear H1
        by_cases c22 : x1_2 = 0
        ·rw [if_pos c22] at H
         have c22b0 : (x1_2 == 0) = true := beq_iff_eq.mpr c22
         have c22b1 : (x1_2 != 0) = false := bne_eq_false_iff_eq.mpr c22
         clear c22; obtain rfl := Option.some.inj H; have hcv23 := own_string (P := Try.prog) Try.underlying31 Try.underlying5 Try.underlying9 (Kd.own_of_R HO_6.out); go_wp2; go_ret
         exact ⟨eq_, bel⟩
        rw [if_neg c22] at H
        have c22b0 : (x1_2 == 0) = false := beq_eq_false_iff_ne.mpr c22
        have c22b1 : (x1_2 != 0) = true := bne_iff_ne.mpr c22
        have H' := am H
        clear H; go_wp2
        go_meet
        case rel => exact ⟨_, (wrap64 (x1_2 - 1)), sq, H', ⟨by have := HJ5.out; have := HK2.out; first | omega | exact Nat.le_refl _⟩, ⟨rq HO_5.out⟩, ⟨rq HO_6.out⟩, ⟨bel⟩⟩
       replace c21 := Bool.eq_false_iff.mpr c21; subst c21
       (try rw [← Nbq20.out] at hx146_0)
       (try rw [← Nbq20.out])
       have H1 : (impl_MachineWord.j2 k2 l0 x1_2 t137 x6_2 x7_2) = some r := b6_
       replace H := H1; clear H1
       have H' := am H
       clear H; go_wp2
       go_meet
       case rel => (try rw [← Nbq20.out]); exact ⟨_, (x1_2), sq, H', ⟨by have := HJ5.out; have := HK2.out; first | omega | exact Nat.le_refl _⟩, ⟨rq HO_5.out⟩, ⟨rq HO_6.out⟩, ⟨bel⟩⟩
      case rest =>
       clear HC19; (try clear c1); (try clear p1); (try clear q1); (try clear hx1); (try clear qi1); (try clear c2); (try clear p2); (try clear q2); (try clear hcv2); (try clear c3); (try clear c4); (try clear p6); (try clear c8); (try clear c9); (try clear c9b0); (try clear c9b1); (try clear c10); (try clear c10b0); (try clear c10b1); (try clear c14); (try clear p14); (try clear q14); (try clear hx14); (try clear qi14); (try clear c17); (try clear c17b0); (try clear c18); (try clear c18b0); (try clear q20); (try clear c21); (try clear c22); (try clear c22b0); (try clear c22b1); (try clear hcv23); (try clear hx140_0); (try clear hx141_0); (try clear hx146_0); (try clear hx146_1); (try clear p1); (try clear p14); (try clear p140); (try clear p141); (try clear p146); (try clear p2); (try clear p6); (try clear q1); (try clear q14); (try clear q140); (try clear q141); (try clear q146); obtain ⟨kq, x1_18, rfl, HA, HJ18, HO_5, HO_6, HB⟩ := hcut
       cases kq with
       | zero => exact absurd HA.out (by simp [impl_MachineWord.j2])
       | succ kj18 =>
        have H := HA.out; clear HA
        simp only [impl_MachineWord.j2] at H
        replace H := it H; obtain ⟨c24b0, H⟩ := H
        replace H := it H; obtain ⟨c25b0, H⟩ := H
        have H' := am H
        clear H
        have p147 : 0 ≤ (x7_2 : Int) := of_decide_eq_true ad
        have q147 : x7_2 < (l0.length : Int) := of_decide_eq_true ad
        obtain ⟨ad147, A147_1, c147_1, e147, hx147_0, hx147_1, hl147_1, hi147_1⟩ := at_T94 HR0.out x7_2 p147 q147
        obtain rfl : ad146 = ad147 := (by injection e147)
        replace hx147_0 := kp HB.out hx147_0; replace hx147_1 := kp HB.out hx147_1; have HR147_1 := am hi147_1; have HC147_1 := am hl147_1; clear hi147_1 hl147_1; replace p147 := eq_true p147; replace q147 := eq_true q147; go_wp2
        go_loopg [1, 6, 7, 46] kj18 (fun kq v1 v6 v7 v46 w' => ∃ (x1_4 : Int) (x6_4 : List Int) (x7_4 : Int) (x46_4 : Int), v1 = .int .i64 x1_4 ∧ v7 = .int .i64 x7_4 ∧ v46 = .int .i64 x46_4 ∧ Aside0 (impl_MachineWord.l1 kq l0 x1_4 t137 x6_4 x7_4 ((rd_T94 l0 x7_2).f1) (((rd_T94 l0 x7_2).f1).length : Int) x46_4 = some r) ∧ Aside0 (kq ≤ kj18) ∧ Aside0 (Kd.R (Kd.int .i64) 3 w' w.heap.size (fun _ => True) v138 t137) ∧ Aside0 (Kd.R (Kd.int .u8) 5 w' w.heap.size (fun _ => True) v6 x6_4) ∧ Aside0 (Below w.heap.size w w'))
        case atStart => exact ⟨(x1_18), (x6_2), (x7_2), (0), sq, sq, sq, H', ⟨Nat.le_refl _⟩, ⟨rq HO_5.out⟩, ⟨rq HO_6.out⟩, ⟨bel⟩⟩
        case round =>
         clear H'; (try clear c1); (try clear p1); (try clear q1); (try clear hx1); (try clear qi1); (try clear c2); (try clear p2); (try clear q2); (try clear hcv2); (try clear c3); (try clear c4); (try clear p6); (try clear c8); (try clear c9); (try clear c9b0); (try clear c9b1); (try clear c10); (try clear c10b0); (try clear c10b1); (try clear c14); (try clear p14); (try clear q14); (try clear hx14); (try clear qi14); (try clear c17); (try clear c17b0); (try clear c18); (try clear c18b0); (try clear q20); (try clear c21); (try clear c22); (try clear c22b0); (try clear c22b1); (try clear hcv23); (try clear c24); (try clear c24b0); (try clear c25); (try clear c25b0); (try clear hx140_0); (try clear hx141_0); (try clear hx146_0); (try clear hx146_1); (try clear hx147_0); (try clear hx147_1); (try clear p1); (try clear p14); (try clear p140); (try clear p141); (try clear p146); (try clear p147); (try clear p2); (try clear p6); (try clear q1); (try clear q14); (try clear q140); (try clear q141); (try clear q146); (try clear q147); (try clear q2); (try clear q20); obtain ⟨x1_4, x6_4, x7_4, x46_4, rfl, rfl, rfl, HA, HK4, HO_5, HO_6, HB⟩ := hrel
         cases gk with
         | zero => exact absurd HA.out (by simp [impl_MachineWord.l1])
         | succ k4 =>
          have H := HA.out; clear HA
          simp only [impl_MachineWord.l1] at H
          by_cases c26 : x46_4 < (((rd_T94 l0 x7_2).f1).length : Int)
          ·rw [if_pos c26] at H; have c26b0 := decide_eq_true c26; clear c26
           replace H := it H; obtain ⟨c27b0, H⟩ := H
           replace H := it H; obtain ⟨c28b0, H⟩ := H
           replace H := it H; obtain ⟨c29b0, H⟩ := H
           replace H := it H; obtain ⟨c30b0, H⟩ := H
           by_cases c31 : x1_4 < (rd t137 ((rd_T100 ((rd_T94 l0 x7_2).f1) x46_4).f1))
           ·rw [if_pos c31] at H; have c31b0 := decide_eq_true c31; clear c31
            replace H := ip H; obtain ⟨c32, H⟩ := H; have LMc32 := Aside0.mk c32; clear c32; obtain ⟨y151, hy151⟩ : ∃ y_ : List Int, y_ = (x6_4 ++ [((rd_T100 ((rd_T94 l0 x7_2).f1) x46_4).f0) % 256]) := ⟨_, rfl⟩
            replace H : (impl_MachineWord.l0 k4 l0 x1_4 t137 y151 ((rd_T100 ((rd_T94 l0 x7_2).f1) x46_4).f1)) = some r := by first | (rw [hy151]; with_reducible exact H) | (have H2_ := bm H; rw [hy151]; with_reducible exact H2_) | (with_reducible exact bm H) | with_reducible exact H | (rw [hy151]; exact H) | exact H
            have Ny151 := am hy151; clear hy151
            have H' := am H
            clear H
            have p148 : 0 ≤ (x46_4 : Int) := of_decide_eq_true ad
            have q148 : x46_4 < (((rd_T94 l0 x7_2).f1).length : Int) := of_decide_eq_true ad
            obtain ⟨ad148, e148, hx148_0, hx148_1⟩ := at_T100 HR147_1.out x46_4 p148 q148
            cases e148
            replace hx148_0 := kp HB.out hx148_0; replace hx148_1 := kp HB.out hx148_1; replace p148 := eq_true p148; replace q148 := eq_true q148
            go_wp2_with (first | ((with_reducible refine gate_dst (N := 9) rfl ?_); refine bx 9 (cs := #[.int .i64 0, .int .i64 0]) (t := 100) ?_; intro gb149 hg w33 hbox hb; replace HO_5 := am (Kd.R_below (rq HO_5.out) hb); replace HO_6 := am (Kd.R_below (rq HO_6.out) hb); have BK149 := am (hbox); have GW149 := am ((b7_ : w.heap.size ≤ gb149)); have GE149 := am ((b7_ : w.heap.size ≤ gb149)); replace HB := am (below_step bel hb); clear hb hbox hg; have hcz34_0 := bc BK149.out 0; have hcz34_1 := bc BK149.out 1; have hfz34_0 := bf BK149.out 0; have hfz34_1 := bf BK149.out 1; obtain ⟨Ao35, co35, eo35⟩ := Kd.R_slice HO_5.out; subst eo35; have p150 : 0 ≤ (((rd_T100 ((rd_T94 l0 x7_2).f1) x46_4).f1) : Int) := of_decide_eq_true ad; have q150 : ((rd_T100 ((rd_T94 l0 x7_2).f1) x46_4).f1) < (t137.length : Int) := of_decide_eq_true ad; obtain ⟨ad150, e150, hx150_0⟩ := Kd.at_int (Kd.R_reads' HO_5.out).2.2 ((rd_T100 ((rd_T94 l0 x7_2).f1) x46_4).f1) p150 q150; cases e150; have hn150_0 : ad150.block ≠ gb149 := Kd.own_blk (Kd.R_ne HO_5.out BK149.out (by decide)); have hn150_1 : ad150.block ≠ gb149 := Kd.own_blk (Kd.R_ne HO_5.out BK149.out (by decide)); replace hx150_0 := (cell_far (p := ⟨gb149, 0, none⟩) (by first | (rw [add_block]; exact hn150_0) | (show (Addr.add _ _).block ≠ _; rw [add_block]; exact hn150_0) | exact hn150_0) (.int .i64 ((rd_T100 ((rd_T94 l0 x7_2).f1) x46_4).f0))).trans hx150_0; replace hx150_0 := (cell_far (p := ⟨gb149, 1, none⟩) (by first | (rw [add_block]; exact hn150_1) | (show (Addr.add _ _).block ≠ _; rw [add_block]; exact hn150_1) | exact hn150_1) (.int .i64 ((rd_T100 ((rd_T94 l0 x7_2).f1) x46_4).f1))).trans hx150_0; clear hn150_0; clear hn150_1; replace p150 := eq_true p150; replace q150 := eq_true q150) | ((with_reducible refine gate_builtin (b := .append) (xs := #[.tmp 57, .tmp 61]) rfl ?_); at_builtin; refine Kd.R_append (Kd.int .u8) (w0 := w) w.heap.size rfl (.tmp 57) (.tmp 61) 31 5 (.int .u8 0) 1 rfl Try.underlying31 info5 rfl (by decide) (by omega) u6 x6_4 (((rd_T100 ((rd_T94 l0 x7_2).f1) x46_4).f0) % 256) [.int .u8 (((rd_T100 ((rd_T94 l0 x7_2).f1) x46_4).f0) % 256)] (fun _ => True) (fun _ => False) rfl (by first | (go_simp; done) | (go_simp; rfl)) ?aP (fun _ hk => hk.elim) ?aF ?aO ?aB ?aS ?aL ?_; (case aP => exact rfl); (case aB => exact (bel1 GE149.out)); (case aF => exact (fun _ _ => trivial)); (case aO => exact (rq (Kd.R_mono (Kd.R_far (p := ⟨gb149, 1, none⟩) (Kd.R_far (p := ⟨gb149, 0, none⟩) (Kd.R_types HO_6.out BK149.out (by decide)) (fun _ hk => hk.2) (.int .i64 ((rd_T100 ((rd_T94 l0 x7_2).f1) x46_4).f0))) (fun _ hk => hk.2) (.int .i64 ((rd_T100 ((rd_T94 l0 x7_2).f1) x46_4).f1))) (fun _ hk => trivial)))); (case aS => exact (below_size (bel1 GE149.out))); (case aL => have := LMc32.out; omega); intro v152 w36 ho hb hg hat; rw [← Ny151.out] at ho; replace HO_5 := am (Kd.R_over' (rq ((Kd.R_mono (Kd.R_far (p := ⟨gb149, 1, none⟩) (Kd.R_far (p := ⟨gb149, 0, none⟩) (Kd.R_types HO_5.out BK149.out (by decide)) (fun _ hk => hk.2) (.int .i64 ((rd_T100 ((rd_T94 l0 x7_2).f1) x46_4).f0))) (fun _ hk => hk.2) (.int .i64 ((rd_T100 ((rd_T94 l0 x7_2).f1) x46_4).f1))) (fun _ h_ => h_.1)))) (Kd.R_typed (rq ((Kd.R_mono (Kd.R_far (p := ⟨gb149, 1, none⟩) (Kd.R_far (p := ⟨gb149, 0, none⟩) (Kd.R_types HO_6.out BK149.out (by decide)) (fun _ hk => hk.2) (.int .i64 ((rd_T100 ((rd_T94 l0 x7_2).f1) x46_4).f0))) (fun _ hk => hk.2) (.int .i64 ((rd_T100 ((rd_T94 l0 x7_2).f1) x46_4).f1))) (fun _ h_ => h_.1))))) (by decide) hg); replace BK149 := am (blk_grown (g := gb149) (o := .cells #[.int .i64 ((rd_T100 ((rd_T94 l0 x7_2).f1) x46_4).f0), .int .i64 ((rd_T100 ((rd_T94 l0 x7_2).f1) x46_4).f1)] 100 (0, 0)) (by (with_reducible repeat (first | refine blk_drewN ?_ _ | refine blk_drew ?_ | refine blk_alloc ?_ _)); refine blk_put (cs := #[.int .i64 ((rd_T100 ((rd_T94 l0 x7_2).f1) x46_4).f0), .int .i64 0]) ?_ 1 _ rfl; (with_reducible repeat (first | refine blk_drewN ?_ _ | refine blk_drew ?_ | refine blk_alloc ?_ _)); refine blk_put (cs := #[.int .i64 0, .int .i64 0]) ?_ 0 _ rfl; (with_reducible repeat (first | refine blk_drewN ?_ _ | refine blk_drew ?_ | refine blk_alloc ?_ _)); exact BK149.out) hg (Kd.R_ne HO_6.out BK149.out (by decide))); replace HB := am (hb); have HO153 := am (ho); clear HO_6; clear ho hb hg hat; have hcz37_0 : w36.cell? ⟨gb149, 0, none⟩ = some (.int .i64 ((rd_T100 ((rd_T94 l0 x7_2).f1) x46_4).f0)) := (blk_cell BK149.out 0).trans rfl; have hcz37_1 : w36.cell? ⟨gb149, 1, none⟩ = some (.int .i64 ((rd_T100 ((rd_T94 l0 x7_2).f1) x46_4).f1)) := (blk_cell BK149.out 1).trans rfl; have hfz37_0 := bf BK149.out 0; have hfz37_1 := bf BK149.out 1))
            go_roundg k4
            case measure => have := HJ5.out; have := HK2.out; have := HJ18.out; have := HK4.out; omega
            case rel => exact ⟨(x1_4), (y151), ((rd_T100 ((rd_T94 l0 x7_2).f1) x46_4).f1), sq, sq, H', ⟨b89_⟩, ⟨rq HO_5.out⟩, ⟨rq HO153.out⟩, ⟨bel1 GE149.out⟩⟩
           rw [if_neg c31] at H; have c31b0 := decide_eq_false c31; clear c31
           have H' := am H
           clear H
           have p148 : 0 ≤ (x46_4 : Int) := of_decide_eq_true ad
           have q148 : x46_4 < (((rd_T94 l0 x7_2).f1).length : Int) := of_decide_eq_true ad
           obtain ⟨ad148, e148, hx148_0, hx148_1⟩ := at_T100 HR147_1.out x46_4 p148 q148
           cases e148
           replace hx148_0 := kp HB.out hx148_0; replace hx148_1 := kp HB.out hx148_1; replace p148 := eq_true p148; replace q148 := eq_true q148
           go_wp2_with (first | ((with_reducible refine gate_dst (N := 9) rfl ?_); refine bx 9 (cs := #[.int .i64 0, .int .i64 0]) (t := 100) ?_; intro gb149 hg w38 hbox hb; replace HO_5 := am (Kd.R_below (rq HO_5.out) hb); replace HO_6 := am (Kd.R_below (rq HO_6.out) hb); have BK149 := am (hbox); have GW149 := am ((b7_ : w.heap.size ≤ gb149)); have GE149 := am ((b7_ : w.heap.size ≤ gb149)); replace HB := am (below_step bel hb); clear hb hbox hg; have hcz39_0 := bc BK149.out 0; have hcz39_1 := bc BK149.out 1; have hfz39_0 := bf BK149.out 0; have hfz39_1 := bf BK149.out 1; obtain ⟨Ao40, co40, eo40⟩ := Kd.R_slice HO_5.out; subst eo40; have p150 : 0 ≤ (((rd_T100 ((rd_T94 l0 x7_2).f1) x46_4).f1) : Int) := of_decide_eq_true ad; have q150 : ((rd_T100 ((rd_T94 l0 x7_2).f1) x46_4).f1) < (t137.length : Int) := of_decide_eq_true ad; obtain ⟨ad150, e150, hx150_0⟩ := Kd.at_int (Kd.R_reads' HO_5.out).2.2 ((rd_T100 ((rd_T94 l0 x7_2).f1) x46_4).f1) p150 q150; cases e150; have hn150_0 : ad150.block ≠ gb149 := Kd.own_blk (Kd.R_ne HO_5.out BK149.out (by decide)); have hn150_1 : ad150.block ≠ gb149 := Kd.own_blk (Kd.R_ne HO_5.out BK149.out (by decide)); replace hx150_0 := (cell_far (p := ⟨gb149, 0, none⟩) (by first | (rw [add_block]; exact hn150_0) | (show (Addr.add _ _).block ≠ _; rw [add_block]; exact hn150_0) | exact hn150_0) (.int .i64 ((rd_T100 ((rd_T94 l0 x7_2).f1) x46_4).f0))).trans hx150_0; replace hx150_0 := (cell_far (p := ⟨gb149, 1, none⟩) (by first | (rw [add_block]; exact hn150_1) | (show (Addr.add _ _).block ≠ _; rw [add_block]; exact hn150_1) | exact hn150_1) (.int .i64 ((rd_T100 ((rd_T94 l0 x7_2).f1) x46_4).f1))).trans hx150_0; clear hn150_0; clear hn150_1; replace p150 := eq_true p150; replace q150 := eq_true q150; have p154 : 0 ≤ (((rd_T100 ((rd_T94 l0 x7_2).f1) x46_4).f1) : Int) := of_decide_eq_true ad; have q154 : ((rd_T100 ((rd_T94 l0 x7_2).f1) x46_4).f1) < (t137.length : Int) := of_decide_eq_true ad; obtain ⟨ad154, e154, hx154_0⟩ := Kd.at_int (Kd.R_reads' HO_5.out).2.2 ((rd_T100 ((rd_T94 l0 x7_2).f1) x46_4).f1) p154 q154; obtain rfl : ad150 = ad154 := (by injection e154); have hn154_0 : ad150.block ≠ gb149 := Kd.own_blk (Kd.R_ne HO_5.out BK149.out (by decide)); have hn154_1 : ad150.block ≠ gb149 := Kd.own_blk (Kd.R_ne HO_5.out BK149.out (by decide)); replace hx154_0 := (cell_far (p := ⟨gb149, 0, none⟩) (by first | (rw [add_block]; exact hn154_0) | (show (Addr.add _ _).block ≠ _; rw [add_block]; exact hn154_0) | exact hn154_0) (.int .i64 ((rd_T100 ((rd_T94 l0 x7_2).f1) x46_4).f0))).trans hx154_0; replace hx154_0 := (cell_far (p := ⟨gb149, 1, none⟩) (by first | (rw [add_block]; exact hn154_1) | (show (Addr.add _ _).block ≠ _; rw [add_block]; exact hn154_1) | exact hn154_1) (.int .i64 ((rd_T100 ((rd_T94 l0 x7_2).f1) x46_4).f1))).trans hx154_0; clear hn154_0; clear hn154_1; replace p154 := eq_true p154; replace q154 := eq_true q154))
           go_roundg k4
           case measure => have := HJ5.out; have := HK2.out; have := HJ18.out; have := HK4.out; omega
           case rel => exact ⟨(wrap64 (x1_4 - (rd t137 ((rd_T100 ((rd_T94 l0 x7_2).f1) x46_4).f1)))), (x6_4), (x7_4), (wrap64 (x46_4 + 1)), sq, sq, sq, H', ⟨b89_⟩, ⟨rq (Kd.R_mono (Kd.R_far (p := ⟨gb149, 1, none⟩) (Kd.R_far (p := ⟨gb149, 0, none⟩) (Kd.R_types HO_5.out BK149.out (by decide)) (fun _ hk => hk.2) (.int .i64 ((rd_T100 ((rd_T94 l0 x7_2).f1) x46_4).f0))) (fun _ hk => hk.2) (.int .i64 ((rd_T100 ((rd_T94 l0 x7_2).f1) x46_4).f1))) (fun _ hk => trivial))⟩, ⟨rq (Kd.R_mono (Kd.R_far (p := ⟨gb149, 1, none⟩) (Kd.R_far (p := ⟨gb149, 0, none⟩) (Kd.R_types HO_6.out BK149.out (by decide)) (fun _ hk => hk.2) (.int .i64 ((rd_T100 ((rd_T94 l0 x7_2).f1) x46_4).f0))) (fun _ hk => hk.2) (.int .i64 ((rd_T100 ((rd_T94 l0 x7_2).f1) x46_4).f1))) (fun _ hk => trivial))⟩, ⟨bel1 GE149.out⟩⟩
          rw [if_neg c26] at H; have c26b0 := decide_eq_false c26; clear c26
          have H' := am H
          clear H; go_wp2
          go_roundg k4
          case measure => have := HJ5.out; have := HK2.out; have := HJ18.out; have := HK4.out; omega
          case rel => exact ⟨(x1_4), (x6_4), (x7_4), sq, sq, H', ⟨b89_⟩, ⟨rq HO_5.out⟩, ⟨rq HO_6.out⟩, ⟨bel⟩⟩
 replace c4 := Bool.eq_false_iff.mpr c4; subst c4
 have H1 : (some (⟨#[]⟩ : ByteArray)) = some r := b6_
 replace H := H1; clear H1
 obtain rfl := Option.some.inj H; go_enter Try.func36, Try.ntmps36
 go_wp2_with (first | ((with_reducible refine gate_callee (f := 44) rfl ?_); refine goesL_ (some 11) rfl rfl Try.func44 (by kernel_rfl) rfl #[.slice A0 l0.length c0] rfl mq ?_; (with_reducible refine (impl_MachineOk.calls k _ _ l0 false _ ?side1 ?side2 A3.out).mono ?_); (case side1 => repeat (first | exact HR0.out | (with_reducible refine Kd.C_alloc ?_ _) | (with_reducible refine Kd.C_drewN ?_ _) | (with_reducible refine Kd.C_drew ?_))); (case side2 => exact HC0.out); rintro e w41 ⟨rfl, hb⟩; refine ⟨_, rfl, ?_⟩; replace HB := am (below_step bel hb); (try clear hb); (try clear hb2); (try clear hk); (try clear hi)))
 go_ret
 exact ⟨eq_, bel⟩

/-! ### impl_State_step: function 84 -/
def impl_State_step.l0 : Nat → Int → List (S100) → Int → Int → Option (Int)
 | 0, _, _, _, _ => none
 | k + 1, x1, x8, x9, x10 => if x10 < x9 then (if 0 ≤ x10 then (if x10 < (x8.length : Int) then (if ((rd_T100 x8 x10).f0) = (wrap64 (x1)) then (some ((rd_T100 x8 x10).f1)) else (impl_State_step.l0 k x1 x8 x9 (wrap64 (x10 + 1)))) else (none)) else (none)) else (some (-1))
def impl_State_step.f (k : Nat) (a0_0 : Bool) (l0_1 : List (S100)) (a1 : Int) : Option (Int) := impl_State_step.l0 k a1 l0_1 (l0_1.length : Int) 0
theorem impl_State_step.calls (k : Nat) (a0_0 : Bool) (A0_1 : Option Addr) (c0_1 : Nat) (l0_1 : List (S100)) (a1 : Int) (r : Int) (w : World) (hr0_1 : Kd.C k100 w A0_1 l0_1.length l0_1) (hc0_1 : l0_1.length ≤ c0_1) (h : impl_State_step.f k a0_0 l0_1 a1 = some r) :
  Calls Try.prog 84 #[.agg #[.bool a0_0, .slice A0_1 l0_1.length c0_1], .int .u8 a1] w fun e w' => e = .returned (.int .i64 r) ∧ Below w.heap.size w w' := by
 have hu94 := Try.underlying94; have hu100 := Try.underlying100; have HR0_1 := am hr0_1; have HC0_1 := am hc0_1; clear hr0_1 hc0_1; have HB := am (Below.refl w.heap.size w)
 have H : (impl_State_step.l0 k a1 l0_1 (l0_1.length : Int) 0) = some r := h
 clear h
 have H' := am H
 clear H; go_enter Try.func84, Try.ntmps84
 go_wp2_with (first | ((with_reducible refine gate_dst (N := 2) rfl ?_); refine bx 2 (cs := #[.bool a0_0, .slice A0_1 l0_1.length c0_1]) (t := 94) ?_; intro gb155 hg w3 hbox hb; have BK155 := am (hbox); have GW155 := am ((b7_ : w.heap.size ≤ gb155)); have GE155 := am ((b7_ : w.heap.size ≤ gb155)); replace HB := am (below_step bel hb); clear hb hbox hg; have hcz4_0 := bc BK155.out 0; have hcz4_1 := bc BK155.out 1; have hfz4_0 := bf BK155.out 0; have hfz4_1 := bf BK155.out 1))
 go_loopg [10] k (fun kq v10 w' => ∃ (x10_1 : Int), v10 = .int .i64 x10_1 ∧ Aside0 (impl_State_step.l0 kq a1 l0_1 (l0_1.length : Int) x10_1 = some r) ∧ Aside0 (kq ≤ k) ∧ Aside0 (w'.heap[gb155]? = some (.cells #[.bool a0_0, (.slice A0_1 l0_1.length c0_1)] 94 (0, 0))) ∧ Aside0 (Below w.heap.size w w'))
 case atStart => exact ⟨(0), sq, H', ⟨Nat.le_refl _⟩, ⟨bq BK155.out⟩, ⟨bel1 GE155.out⟩⟩
 case round =>
  clear H'; (try clear p2); (try clear hcz4_0); (try clear hcz4_1); (try clear hfz4_0); (try clear hfz4_1); obtain ⟨x10_1, rfl, HA, HK1, BK155, HB⟩ := hrel
  cases gk with
  | zero => exact absurd HA.out (by simp [impl_State_step.l0])
  | succ k1 =>
   have H := HA.out; clear HA
   simp only [impl_State_step.l0] at H
   by_cases c5 : x10_1 < (l0_1.length : Int)
   ·rw [if_pos c5] at H; have c5b0 := decide_eq_true c5; clear c5
    replace H := it H; obtain ⟨c6b0, H⟩ := H
    replace H := it H; obtain ⟨c7b0, H⟩ := H
    by_cases c8 : ((rd_T100 l0_1 x10_1).f0) = (wrap64 (a1))
    ·rw [if_pos c8] at H
     have c8b0 : (((rd_T100 l0_1 x10_1).f0) == (wrap64 (a1))) = true := beq_iff_eq.mpr c8
     have c8b1 : (((rd_T100 l0_1 x10_1).f0) != (wrap64 (a1))) = false := bne_eq_false_iff_eq.mpr c8
     clear c8; obtain rfl := Option.some.inj H
     have p156 : 0 ≤ (x10_1 : Int) := of_decide_eq_true ad
     have q156 : x10_1 < (l0_1.length : Int) := of_decide_eq_true ad
     obtain ⟨ad156, e156, hx156_0, hx156_1⟩ := at_T100 HR0_1.out x10_1 p156 q156
     cases e156
     replace hx156_0 := kp HB.out hx156_0; replace hx156_1 := kp HB.out hx156_1; replace p156 := eq_true p156; replace q156 := eq_true q156
     go_wp2_with (first | ((with_reducible refine gate_dst (N := 6) rfl ?_); refine bx 6 (cs := #[.int .i64 0, .int .i64 0]) (t := 100) ?_; intro gb157 hg w9 hbox hb; have BK157 := am (hbox); have GW157 := am ((b91_ : w.heap.size ≤ gb157)); have GE157 := am ((b91_ : w.heap.size ≤ gb157)); replace HB := am (below_step (bel1 GE155.out) hb); have NB155_157 := am ((b80_ : gb155 ≠ gb157)); have NB157_155 := am ((b81_ : gb157 ≠ gb155)); replace BK155 := am (blk_below (g := gb155) (o := .cells #[.bool a0_0, .slice (some ad156) l0_1.length c0_1] 94 (0, 0)) (bq BK155.out) hb); clear hb hbox hg; have hnb10 := NB157_155.out; have hnc10 := NB155_157.out; have hcz11_0 := bc BK157.out 0; have hcz11_1 := bc BK157.out 1; have hfz11_0 := bf BK157.out 0; have hfz11_1 := bf BK157.out 1))
     go_ret
     exact ⟨eq_, bel2 GE155.out GE157.out⟩
    rw [if_neg c8] at H
    have c8b0 : (((rd_T100 l0_1 x10_1).f0) == (wrap64 (a1))) = false := beq_eq_false_iff_ne.mpr c8
    have c8b1 : (((rd_T100 l0_1 x10_1).f0) != (wrap64 (a1))) = true := bne_iff_ne.mpr c8
    have H' := am H
    clear H
    have p156 : 0 ≤ (x10_1 : Int) := of_decide_eq_true ad
    have q156 : x10_1 < (l0_1.length : Int) := of_decide_eq_true ad
    obtain ⟨ad156, e156, hx156_0, hx156_1⟩ := at_T100 HR0_1.out x10_1 p156 q156
    cases e156
    replace hx156_0 := kp HB.out hx156_0; replace hx156_1 := kp HB.out hx156_1; replace p156 := eq_true p156; replace q156 := eq_true q156
    go_wp2_with (first | ((with_reducible refine gate_dst (N := 6) rfl ?_); refine bx 6 (cs := #[.int .i64 0, .int .i64 0]) (t := 100) ?_; intro gb157 hg w12 hbox hb; have BK157 := am (hbox); have GW157 := am ((b91_ : w.heap.size ≤ gb157)); have GE157 := am ((b91_ : w.heap.size ≤ gb157)); replace HB := am (below_step (bel1 GE155.out) hb); have NB155_157 := am ((b80_ : gb155 ≠ gb157)); have NB157_155 := am ((b81_ : gb157 ≠ gb155)); replace BK155 := am (blk_below (g := gb155) (o := .cells #[.bool a0_0, .slice (some ad156) l0_1.length c0_1] 94 (0, 0)) (bq BK155.out) hb); clear hb hbox hg; have hnb13 := NB157_155.out; have hnc13 := NB155_157.out; have hcz14_0 := bc BK157.out 0; have hcz14_1 := bc BK157.out 1; have hfz14_0 := bf BK157.out 0; have hfz14_1 := bf BK157.out 1))
    go_roundg k1
    case measure => have := HK1.out; omega
    case rel => exact ⟨(wrap64 (x10_1 + 1)), sq, H', ⟨b67_⟩, ⟨by (with_reducible repeat (first | refine blk_drewN ?_ _ | refine blk_drew ?_ | refine blk_alloc ?_ _)); refine blk_far ?_ NB155_157.out _; (with_reducible repeat (first | refine blk_drewN ?_ _ | refine blk_drew ?_ | refine blk_alloc ?_ _)); refine blk_far ?_ NB155_157.out _; (with_reducible repeat (first | refine blk_drewN ?_ _ | refine blk_drew ?_ | refine blk_alloc ?_ _)); exact BK155.out⟩, ⟨bel2 GE155.out GE157.out⟩⟩
   rw [if_neg c5] at H; have c5b0 := decide_eq_false c5; clear c5; obtain rfl := Option.some.inj H; go_wp2; go_ret
   exact ⟨eq_, bel1 GE155.out⟩
-- shrunk

/-! ### impl_follow: function 82 -/
def impl_follow.l0 : Nat → List (S94) → ByteArray → Int → Int → Int → Option (Int)
 | 0, _, _, _, _, _ => none
 | k + 1, x0, x1, x5, x8, x9 => if x9 < x8 then (if 0 ≤ x5 then (if x5 < (x0.length : Int) then (if 0 ≤ x9 then (if x9 < (x1.size : Int) then ((impl_State_step.f k ((rd_T94 x0 x5).f0) ((rd_T94 x0 x5).f1) (bt x1 x9)).bind fun t159 => (if t159 < 0 then (some (-1)) else (impl_follow.l0 k x0 x1 t159 x8 (wrap64 (x9 + 1))))) else (none)) else (none)) else (none)) else (none)) else (some x5)
def impl_follow.f (k : Nat) (l0 : List (S94)) (a1 : ByteArray) : Option (Int) := impl_follow.l0 k l0 a1 0 (a1.size : Int) 0
def impl_follow.T5 : Bool × List (List Nat × List Nat) := (true, [([], []), ([], []), ([0, 1], [0, 1]), ([2], [2]), ([], []), ([], []), ([4, 5], [4, 5]), ([3, 6], [3, 6]), ([7, 7, 0, 1, 2, 3, 4, 5, 6, 7], [1, 7])])
def impl_follow.B5 : List Nat := [0, 0, 3, 7, 0, 0, 48, 127, 255]
theorem impl_follow.tab5 : rtab .any (opsOf Try.f82 5) = impl_follow.T5 := by kernel_rfl
theorem impl_follow.bits5 : waitsOk impl_follow.T5.2 impl_follow.B5 = true := by kernel_rfl
theorem impl_follow.calls (k : Nat) (A0 : Option Addr) (c0 : Nat) (l0 : List (S94)) (a1 : ByteArray) (r : Int) (w : World) (hr0 : Kd.C k94 w A0 l0.length l0) (hc0 : l0.length ≤ c0) (h : impl_follow.f k l0 a1 = some r) :
  Calls Try.prog 82 #[.slice A0 l0.length c0, .string a1] w fun e w' => e = .returned (.int .i64 r) ∧ Below w.heap.size w w' := by
 have hu94 := Try.underlying94; have HR0 := am hr0; have HC0 := am hc0; clear hr0 hc0; have HB := am (Below.refl w.heap.size w)
 have H : (impl_follow.l0 k l0 a1 0 (a1.size : Int) 0) = some r := h
 clear h
 have H' := am H
 clear H; go_enter Try.func82, Try.ntmps82; go_wp2
 go_loopg [5, 9] k (fun kq v5 v9 w' => ∃ (x5_1 : Int) (x9_1 : Int), v5 = .int .i64 x5_1 ∧ v9 = .int .i64 x9_1 ∧ Aside0 (impl_follow.l0 kq l0 a1 x5_1 (a1.size : Int) x9_1 = some r) ∧ Aside0 (kq ≤ k) ∧ Aside0 (Below w.heap.size w w'))
 case atStart => exact ⟨(0), (0), sq, sq, H', ⟨Nat.le_refl _⟩, ⟨bel⟩⟩
 case round =>
  clear H'; (try clear p2); obtain ⟨x5_1, x9_1, rfl, rfl, HA, HK1, HB⟩ := hrel
  cases gk with
  | zero => exact absurd HA.out (by simp [impl_follow.l0])
  | succ k1 =>
   have H := HA.out; clear HA
   simp only [impl_follow.l0] at H
   by_cases c3 : x9_1 < (a1.size : Int)
   ·rw [if_pos c3] at H; have c3b0 := decide_eq_true c3; clear c3
    replace H := it H; obtain ⟨c4b0, H⟩ := H
    replace H := it H; obtain ⟨c5b0, H⟩ := H
    replace H := it H; obtain ⟨c6b0, H⟩ := H
    replace H := it H; obtain ⟨c7b0, H⟩ := H; replace H := bs H; obtain ⟨t159, A90, H⟩ := H; replace H : (if t159 < 0 then (some (-1)) else (impl_follow.l0 k1 l0 a1 t159 (a1.size : Int) (wrap64 (x9_1 + 1)))) = some r := H; have A9 := Aside0.mk A90; clear A90
    by_cases c10 : t159 < 0
    ·rw [if_pos c10] at H; have c10b0 := decide_eq_true c10; clear c10; obtain rfl := Option.some.inj H
     try go_wp2
     replace HB := am (below_drew1 HB.out)
     have p158 : 0 ≤ (x5_1 : Int) := of_decide_eq_true ad
     have q158 : x5_1 < (l0.length : Int) := of_decide_eq_true ad
     obtain ⟨ad158, A158_1, c158_1, e158, hx158_0, hx158_1, hl158_1, hi158_1⟩ := at_T94 HR0.out x5_1 p158 q158; have hw158_1 := hx158_1; have hw158_0 := hx158_0
     cases e158
     replace hx158_0 := kp HB.out hx158_0; replace hx158_1 := kp HB.out hx158_1; have HR158_1 := am hi158_1; have HC158_1 := am hl158_1; clear hi158_1 hl158_1; replace p158 := eq_true p158; replace q158 := eq_true q158
     have p8 : 0 ≤ (x9_1 : Int) := of_decide_eq_true ad
     have q8 : x9_1 < (a1.size : Int) := of_decide_eq_true ad
     have hx8 := bt_at a1 x9_1; replace p8 := eq_true p8; replace q8 := eq_true q8
     refine st (n := 9) (S := fun w' => w'.cell? (ad158.add ((x5_1).toNat * 2)) = some (.bool ((rd_T94 l0 x5_1).f0)) ∧ w'.cell? ⟨(ad158.add ((x5_1).toNat * 2)).block, (ad158.add ((x5_1).toNat * 2)).off + 1, none⟩ = some (.slice A158_1 ((rd_T94 l0 x5_1).f1).length c158_1)) (ds := []) ⟨(kp HB.out hw158_0), (kp HB.out hw158_1)⟩ (fun hHeld => ?_); refine with_tabW impl_follow.tab5 impl_follow.bits5 (fun HT_ HW_ => ?_)
     generalize wr.drew = w11 at HB HR158_1 hx158_0 hx158_1 hHeld ⊢
     refine pu 0 12 ?_
     refine pu 1 13 ?_
     refine pu 2 14 ?_
     refine pu 4 16 ?_
     refine pu 5 17 ?_
     refine tk2 3 15 hHeld ?_
     refine tk2 6 18 hHeld ?_
     refine on1 7 19 (fun K hK => ?_)
     refine goes_ Try.func84 (by kernel_rfl) rfl #[.agg #[.bool ((rd_T94 l0 x5_1).f0), .slice A158_1 ((rd_T94 l0 x5_1).f1).length c158_1], .int .u8 (bt a1 x9_1)] (by rfl) rfl rfl mq ?_
     with_reducible refine (impl_State_step.calls k1 ((rd_T94 l0 x5_1).f0) _ _ ((rd_T94 l0 x5_1).f1) (bt a1 x9_1) t159 _ ?side1 ?side2 A9.out).mono ?_
     (case side1 => exact cq (Kd.C_below HR158_1.out HB.out)); (case side2 => exact HC158_1.out)
     rintro e w12 ⟨rfl, hb⟩
     refine ⟨_, rfl, ?_⟩
     replace HB := am (below_step bel hb)
     (try clear hb)
     (try clear hb2)
     (try clear hk)
     (try clear hi)
     refine hK.out _ _ ⟨(kp HB.out hw158_0), (kp HB.out hw158_1)⟩ (fun hHeld => ?_)
     clear hK K
     refine norm_ (a' := ?_) ?_ ?_
     rotate_left
     ·show Act.put _ (some 19) _ = _
      simp only [Act.put, List.setIfInBounds_toArray, List.set_cons_zero, List.set_cons_succ, i64_w, i32_w]
      rfl
     refine pu 8 5 ?_
     refine done_ (done_of HT_.out (by kernel_rfl)) ?_
     try go_wp2
     go_ret
     exact ⟨eq_, bel⟩
    rw [if_neg c10] at H; have c10b0 := decide_eq_false c10; clear c10
    have H' := am H
    clear H
    try go_wp2
    replace HB := am (below_drew1 HB.out)
    have p158 : 0 ≤ (x5_1 : Int) := of_decide_eq_true ad
    have q158 : x5_1 < (l0.length : Int) := of_decide_eq_true ad
    obtain ⟨ad158, A158_1, c158_1, e158, hx158_0, hx158_1, hl158_1, hi158_1⟩ := at_T94 HR0.out x5_1 p158 q158; have hw158_1 := hx158_1; have hw158_0 := hx158_0
    cases e158
    replace hx158_0 := kp HB.out hx158_0; replace hx158_1 := kp HB.out hx158_1; have HR158_1 := am hi158_1; have HC158_1 := am hl158_1; clear hi158_1 hl158_1; replace p158 := eq_true p158; replace q158 := eq_true q158
    have p8 : 0 ≤ (x9_1 : Int) := of_decide_eq_true ad
    have q8 : x9_1 < (a1.size : Int) := of_decide_eq_true ad
    have hx8 := bt_at a1 x9_1; replace p8 := eq_true p8; replace q8 := eq_true q8
    refine st (n := 9) (S := fun w' => w'.cell? (ad158.add ((x5_1).toNat * 2)) = some (.bool ((rd_T94 l0 x5_1).f0)) ∧ w'.cell? ⟨(ad158.add ((x5_1).toNat * 2)).block, (ad158.add ((x5_1).toNat * 2)).off + 1, none⟩ = some (.slice A158_1 ((rd_T94 l0 x5_1).f1).length c158_1)) (ds := []) ⟨(kp HB.out hw158_0), (kp HB.out hw158_1)⟩ (fun hHeld => ?_); refine with_tabW impl_follow.tab5 impl_follow.bits5 (fun HT_ HW_ => ?_)
    generalize wr.drew = w13 at HB HR158_1 hx158_0 hx158_1 hHeld ⊢
    refine pu 0 12 ?_
    refine pu 1 13 ?_
    refine pu 2 14 ?_
    refine pu 4 16 ?_
    refine pu 5 17 ?_
    refine tk2 3 15 hHeld ?_
    refine tk2 6 18 hHeld ?_
    refine on1 7 19 (fun K hK => ?_)
    refine goes_ Try.func84 (by kernel_rfl) rfl #[.agg #[.bool ((rd_T94 l0 x5_1).f0), .slice A158_1 ((rd_T94 l0 x5_1).f1).length c158_1], .int .u8 (bt a1 x9_1)] (by rfl) rfl rfl mq ?_
    with_reducible refine (impl_State_step.calls k1 ((rd_T94 l0 x5_1).f0) _ _ ((rd_T94 l0 x5_1).f1) (bt a1 x9_1) t159 _ ?side1 ?side2 A9.out).mono ?_
    (case side1 => exact cq (Kd.C_below HR158_1.out HB.out)); (case side2 => exact HC158_1.out)
    rintro e w14 ⟨rfl, hb⟩
    refine ⟨_, rfl, ?_⟩
    replace HB := am (below_step bel hb)
    (try clear hb)
    (try clear hb2)
    (try clear hk)
    (try clear hi)
    refine hK.out _ _ ⟨(kp HB.out hw158_0), (kp HB.out hw158_1)⟩ (fun hHeld => ?_)
    clear hK K
    refine norm_ (a' := ?_) ?_ ?_
    rotate_left
    ·show Act.put _ (some 19) _ = _
     simp only [Act.put, List.setIfInBounds_toArray, List.set_cons_zero, List.set_cons_succ, i64_w, i32_w]
     rfl
    refine pu 8 5 ?_
    refine done_ (done_of HT_.out (by kernel_rfl)) ?_
    try go_wp2
    go_roundg k1
    case measure => have := HK1.out; omega
    case rel => exact ⟨(t159), (wrap64 (x9_1 + 1)), sq, sq, H', ⟨b67_⟩, ⟨bel⟩⟩
   rw [if_neg c3] at H; have c3b0 := decide_eq_false c3; clear c3; obtain rfl := Option.some.inj H; go_wp2; go_ret
   exact ⟨eq_, bel⟩

/-! ### impl_MachineKnows: function 37 -/
def impl_MachineKnows.f (k : Nat) (l0 : List (S94)) (a1 : ByteArray) : Option (Bool) := (impl_MachineOk.f k l0).bind fun t160 => (if t160 = true then ((impl_follow.f k l0 a1).bind fun t161 => (if t161 ≥ 0 then (if 0 ≤ t161 then (if t161 < (l0.length : Int) then (some ((rd_T94 l0 t161).f0)) else (none)) else (none)) else (some false))) else (some false))
theorem impl_MachineKnows.calls (k : Nat) (A0 : Option Addr) (c0 : Nat) (l0 : List (S94)) (a1 : ByteArray) (r : Bool) (w : World) (hr0 : Kd.C k94 w A0 l0.length l0) (hc0 : l0.length ≤ c0) (h : impl_MachineKnows.f k l0 a1 = some r) :
  Calls Try.prog 37 #[.slice A0 l0.length c0, .string a1] w fun e w' => e = .returned (.bool r) ∧ Below w.heap.size w w' := by
 have HR0 := am hr0; have HC0 := am hc0; clear hr0 hc0; have HB := am (Below.refl w.heap.size w)
 have H : ((impl_MachineOk.f k l0).bind fun t160 => (if t160 = true then ((impl_follow.f k l0 a1).bind fun t161 => (if t161 ≥ 0 then (if 0 ≤ t161 then (if t161 < (l0.length : Int) then (some ((rd_T94 l0 t161).f0)) else (none)) else (none)) else (some false))) else (some false))) = some r := h
 clear h; replace H := bs H; obtain ⟨t160, A30, H⟩ := H; replace H : (if t160 = true then ((impl_follow.f k l0 a1).bind fun t161 => (if t161 ≥ 0 then (if 0 ≤ t161 then (if t161 < (l0.length : Int) then (some ((rd_T94 l0 t161).f0)) else (none)) else (none)) else (some false))) else (some false)) = some r := H; have A3 := Aside0.mk A30; clear A30
 by_cases c4 : t160 = true
 ·subst c4
  have H1 : ((impl_follow.f k l0 a1).bind fun t161 => (if t161 ≥ 0 then (if 0 ≤ t161 then (if t161 < (l0.length : Int) then (some ((rd_T94 l0 t161).f0)) else (none)) else (none)) else (some false))) = some r := b21_
  replace H := H1; clear H1
  replace H := bs H; obtain ⟨t161, A50, H⟩ := H; replace H : (if t161 ≥ 0 then (if 0 ≤ t161 then (if t161 < (l0.length : Int) then (some ((rd_T94 l0 t161).f0)) else (none)) else (none)) else (some false)) = some r := H; have A5 := Aside0.mk A50; clear A50
  by_cases c6 : t161 ≥ 0
  ·rw [if_pos c6] at H; have c6b0 := decide_eq_true c6; clear c6
   replace H := it H; obtain ⟨c7b0, H⟩ := H
   replace H := it H; obtain ⟨c8b0, H⟩ := H; obtain rfl := Option.some.inj H; go_enter Try.func37, Try.ntmps37
   go_wp2_with (first | ((with_reducible refine gate_callee (f := 44) rfl ?_); refine goesL_ (some 7) rfl rfl Try.func44 (by kernel_rfl) rfl #[.slice A0 l0.length c0] rfl mq ?_; (with_reducible refine (impl_MachineOk.calls k _ _ l0 true _ ?side1 ?side2 A3.out).mono ?_); (case side1 => repeat (first | exact HR0.out | (with_reducible refine Kd.C_alloc ?_ _) | (with_reducible refine Kd.C_drewN ?_ _) | (with_reducible refine Kd.C_drew ?_))); (case side2 => exact HC0.out); rintro e w9 ⟨rfl, hb⟩; refine ⟨_, rfl, ?_⟩; replace HB := am (below_step bel hb); (try clear hb); (try clear hb2); (try clear hk); (try clear hi)) | ((with_reducible refine gate_callee (f := 82) rfl ?_); refine goesL_ (some 11) rfl rfl Try.func82 (by kernel_rfl) rfl #[.slice A0 l0.length c0, .string a1] rfl mq ?_; (with_reducible refine (impl_follow.calls k _ _ l0 a1 t161 _ ?side1 ?side2 A5.out).mono ?_); (case side1 => exact cq (Kd.C_below HR0.out HB.out)); (case side2 => exact HC0.out); rintro e w10 ⟨rfl, hb⟩; refine ⟨_, rfl, ?_⟩; replace HB := am (below_step bel hb); (try clear hb); (try clear hb2); (try clear hk); (try clear hi); have p162 : 0 ≤ (t161 : Int) := of_decide_eq_true ad; have q162 : t161 < (l0.length : Int) := of_decide_eq_true ad; obtain ⟨ad162, A162_1, c162_1, e162, hx162_0, hx162_1, hl162_1, hi162_1⟩ := at_T94 HR0.out t161 p162 q162; cases e162; replace hx162_0 := kp HB.out hx162_0; replace hx162_1 := kp HB.out hx162_1; have HR162_1 := am hi162_1; have HC162_1 := am hl162_1; clear hi162_1 hl162_1; replace p162 := eq_true p162; replace q162 := eq_true q162))
   go_ret
   exact ⟨eq_, bel⟩
  rw [if_neg c6] at H; have c6b0 := decide_eq_false c6; clear c6; obtain rfl := Option.some.inj H; go_enter Try.func37, Try.ntmps37
  go_wp2_with (first | ((with_reducible refine gate_callee (f := 44) rfl ?_); refine goesL_ (some 7) rfl rfl Try.func44 (by kernel_rfl) rfl #[.slice A0 l0.length c0] rfl mq ?_; (with_reducible refine (impl_MachineOk.calls k _ _ l0 true _ ?side1 ?side2 A3.out).mono ?_); (case side1 => repeat (first | exact HR0.out | (with_reducible refine Kd.C_alloc ?_ _) | (with_reducible refine Kd.C_drewN ?_ _) | (with_reducible refine Kd.C_drew ?_))); (case side2 => exact HC0.out); rintro e w11 ⟨rfl, hb⟩; refine ⟨_, rfl, ?_⟩; replace HB := am (below_step bel hb); (try clear hb); (try clear hb2); (try clear hk); (try clear hi)) | ((with_reducible refine gate_callee (f := 82) rfl ?_); refine goesL_ (some 11) rfl rfl Try.func82 (by kernel_rfl) rfl #[.slice A0 l0.length c0, .string a1] rfl mq ?_; (with_reducible refine (impl_follow.calls k _ _ l0 a1 t161 _ ?side1 ?side2 A5.out).mono ?_); (case side1 => exact cq (Kd.C_below HR0.out HB.out)); (case side2 => exact HC0.out); rintro e w12 ⟨rfl, hb⟩; refine ⟨_, rfl, ?_⟩; replace HB := am (below_step bel hb); (try clear hb); (try clear hb2); (try clear hk); (try clear hi)))
  go_ret
  exact ⟨eq_, bel⟩
 replace c4 := Bool.eq_false_iff.mpr c4; subst c4
 have H1 : (some false) = some r := b6_
 replace H := H1; clear H1
 obtain rfl := Option.some.inj H; go_enter Try.func37, Try.ntmps37
 go_wp2_with (first | ((with_reducible refine gate_callee (f := 44) rfl ?_); refine goesL_ (some 7) rfl rfl Try.func44 (by kernel_rfl) rfl #[.slice A0 l0.length c0] rfl mq ?_; (with_reducible refine (impl_MachineOk.calls k _ _ l0 false _ ?side1 ?side2 A3.out).mono ?_); (case side1 => repeat (first | exact HR0.out | (with_reducible refine Kd.C_alloc ?_ _) | (with_reducible refine Kd.C_drewN ?_ _) | (with_reducible refine Kd.C_drew ?_))); (case side2 => exact HC0.out); rintro e w13 ⟨rfl, hb⟩; refine ⟨_, rfl, ?_⟩; replace HB := am (below_step bel hb); (try clear hb); (try clear hb2); (try clear hk); (try clear hi)))
 go_ret
 exact ⟨eq_, bel⟩
-- shrunk

/-! ### impl_MachineRank: function 41 -/
mutual
def impl_MachineRank.l0 : Nat → List (S94) → ByteArray → List Int → Int → Int → Int → Int → Option (Int)
 | 0, _, _, _, _, _, _, _ => none
 | k + 1, x0, x1, x5, x6, x7, x22, x23 => if x23 < x22 then (if 0 ≤ x7 then (if x7 < (x0.length : Int) then (if (rd_T94 x0 x7).f0 = true then (impl_MachineRank.j1 k x0 x1 x5 (wrap64 (x6 + 1)) x7 x23 x22 x23) else (impl_MachineRank.j1 k x0 x1 x5 x6 x7 x23 x22 x23)) else (none)) else (none)) else (some x6)
def impl_MachineRank.j1 : Nat → List (S94) → ByteArray → List Int → Int → Int → Int → Int → Int → Option (Int)
 | 0, _, _, _, _, _, _, _, _ => none
 | k + 1, x0, x1, x5, x6, x7, x8, x22, x23 => if 0 ≤ x7 then (if x7 < (x0.length : Int) then (impl_MachineRank.l1 k x0 x1 x5 x6 x7 x8 x22 x23 ((rd_T94 x0 x7).f1) (((rd_T94 x0 x7).f1).length : Int) 0) else (none)) else (none)
def impl_MachineRank.l1 : Nat → List (S94) → ByteArray → List Int → Int → Int → Int → Int → Int → List (S100) → Int → Int → Option (Int)
 | 0, _, _, _, _, _, _, _, _, _, _, _ => none
 | k + 1, x0, x1, x5, x6, x7, x8, x22, x23, x37, x38, x39 => if x39 < x38 then (if 0 ≤ x39 then (if x39 < (x37.length : Int) then (if 0 ≤ x8 then (if x8 < (x1.size : Int) then (if ((rd_T100 x37 x39).f0) < (wrap64 (bt x1 x8)) then (if 0 ≤ ((rd_T100 x37 x39).f1) then (if ((rd_T100 x37 x39).f1) < (x5.length : Int) then (impl_MachineRank.l1 k x0 x1 x5 (wrap64 (x6 + (rd x5 ((rd_T100 x37 x39).f1)))) x7 x8 x22 x23 x37 x38 (wrap64 (x39 + 1))) else (none)) else (none)) else (impl_MachineRank.l1 k x0 x1 x5 x6 x7 x8 x22 x23 x37 x38 (wrap64 (x39 + 1)))) else (none)) else (none)) else (none)) else (none)) else (if 0 ≤ x7 then (if x7 < (x0.length : Int) then (if 0 ≤ x8 then (if x8 < (x1.size : Int) then ((impl_State_step.f k ((rd_T94 x0 x7).f0) ((rd_T94 x0 x7).f1) (bt x1 x8)).bind fun t174 => (impl_MachineRank.l0 k x0 x1 x5 x6 t174 x22 (wrap64 (x23 + 1)))) else (none)) else (none)) else (none)) else (none))
end
def impl_MachineRank.f (k : Nat) (l0 : List (S94)) (a1 : ByteArray) : Option (Int) := (impl_MachineKnows.f k l0 a1).bind fun t163 => (if t163 = true then ((impl_counts.f k l0).bind fun t164 => (if 0 < (t164.length : Int) then (if (rd t164 0) = 1000000000 then (some (-1)) else (impl_MachineRank.l0 k l0 a1 t164 0 0 (a1.size : Int) 0)) else (none))) else (some (-1)))
def impl_MachineRank.T18 : Bool × List (List Nat × List Nat) := (true, [([], []), ([], []), ([0, 1], [0, 1]), ([2], [2]), ([], []), ([], []), ([4, 5], [4, 5]), ([3, 6], [3, 6]), ([7, 7, 0, 1, 2, 3, 4, 5, 6, 7], [1, 7])])
def impl_MachineRank.B18 : List Nat := [0, 0, 3, 7, 0, 0, 48, 127, 255]
theorem impl_MachineRank.tab18 : rtab .any (opsOf Try.f41 18) = impl_MachineRank.T18 := by kernel_rfl
theorem impl_MachineRank.bits18 : waitsOk impl_MachineRank.T18.2 impl_MachineRank.B18 = true := by kernel_rfl
theorem impl_MachineRank.calls (k : Nat) (A0 : Option Addr) (c0 : Nat) (l0 : List (S94)) (a1 : ByteArray) (r : Int) (w : World) (hr0 : Kd.C k94 w A0 l0.length l0) (hc0 : l0.length ≤ c0) (h : impl_MachineRank.f k l0 a1 = some r) :
  Calls Try.prog 41 #[.slice A0 l0.length c0, .string a1] w fun e w' => e = .returned (.int .i64 r) ∧ Below w.heap.size w w' := by
 have hu100 := Try.underlying100; have hu94 := Try.underlying94; have HR0 := am hr0; have HC0 := am hc0; clear hr0 hc0; have HB := am (Below.refl w.heap.size w)
 have H : ((impl_MachineKnows.f k l0 a1).bind fun t163 => (if t163 = true then ((impl_counts.f k l0).bind fun t164 => (if 0 < (t164.length : Int) then (if (rd t164 0) = 1000000000 then (some (-1)) else (impl_MachineRank.l0 k l0 a1 t164 0 0 (a1.size : Int) 0)) else (none))) else (some (-1)))) = some r := h
 clear h; replace H := bs H; obtain ⟨t163, A30, H⟩ := H; replace H : (if t163 = true then ((impl_counts.f k l0).bind fun t164 => (if 0 < (t164.length : Int) then (if (rd t164 0) = 1000000000 then (some (-1)) else (impl_MachineRank.l0 k l0 a1 t164 0 0 (a1.size : Int) 0)) else (none))) else (some (-1))) = some r := H; have A3 := Aside0.mk A30; clear A30
 by_cases c4 : t163 = true
 ·subst c4
  have H1 : ((impl_counts.f k l0).bind fun t164 => (if 0 < (t164.length : Int) then (if (rd t164 0) = 1000000000 then (some (-1)) else (impl_MachineRank.l0 k l0 a1 t164 0 0 (a1.size : Int) 0)) else (none))) = some r := b21_
  replace H := H1; clear H1
  replace H := bs H; obtain ⟨t164, A50, H⟩ := H; replace H : (if 0 < (t164.length : Int) then (if (rd t164 0) = 1000000000 then (some (-1)) else (impl_MachineRank.l0 k l0 a1 t164 0 0 (a1.size : Int) 0)) else (none)) = some r := H; have A5 := Aside0.mk A50; clear A50
  replace H := ip H; obtain ⟨c6, H⟩ := H; have c6b0 := decide_eq_true c6
  have c6b1 : decide (0 < t164.length) = true := decide_eq_true (by omega)
  clear c6
  by_cases c7 : (rd t164 0) = 1000000000
  ·rw [if_pos c7] at H
   have c7b0 : ((rd t164 0) == 1000000000) = true := beq_iff_eq.mpr c7
   have c7b1 : ((rd t164 0) != 1000000000) = false := bne_eq_false_iff_eq.mpr c7
   clear c7; obtain rfl := Option.some.inj H; go_enter Try.func41, Try.ntmps41
   go_wp2_with (first | ((with_reducible refine gate_callee (f := 37) rfl ?_); refine goesL_ (some 13) rfl rfl Try.func37 (by kernel_rfl) rfl #[.slice A0 l0.length c0, .string a1] rfl mq ?_; (with_reducible refine (impl_MachineKnows.calls k _ _ l0 a1 true _ ?side1 ?side2 A3.out).mono ?_); (case side1 => repeat (first | exact HR0.out | (with_reducible refine Kd.C_alloc ?_ _) | (with_reducible refine Kd.C_drewN ?_ _) | (with_reducible refine Kd.C_drew ?_))); (case side2 => exact HC0.out); rintro e w8 ⟨rfl, hb⟩; refine ⟨_, rfl, ?_⟩; replace HB := am (below_step bel hb); (try clear hb); (try clear hb2); (try clear hk); (try clear hi)) | ((with_reducible refine gate_callee (f := 80) rfl ?_); refine goesL_ (some 16) rfl rfl Try.func80 (by kernel_rfl) rfl #[.slice A0 l0.length c0] rfl mq ?_; (with_reducible refine (impl_counts.calls k _ _ l0 t164 _ ?side1 ?side2 A5.out).mono ?_); (case side1 => exact cq (Kd.C_below HR0.out HB.out)); (case side2 => exact HC0.out); rintro e w9 ⟨v165, rfl, ho0, hb⟩; refine ⟨_, rfl, ?_⟩; have HO166 := am (Kd.R_lower ho0 (below_size bel)); replace HB := am (below_step bel hb); (try clear hb); (try clear hb2); (try clear hk); (try clear hi); (try clear ho0); obtain ⟨Ao10, co10, eo10⟩ := Kd.R_slice HO166.out; subst eo10; have p167 : 0 ≤ (0 : Int) := (by omega); have q167 : 0 < (t164.length : Int) := of_decide_eq_true ad; obtain ⟨ad167, e167, hx167_0⟩ := Kd.at_int (Kd.R_reads' HO166.out).2.2 0 p167 q167; cases e167; have qi167 : (0 < t164.length) = True := eq_true (by omega); (try rw [show ((0 : Int)).toNat = 0 from rfl] at hx167_0); (try rw [Addr.add_zero'] at hx167_0); replace p167 := eq_true p167; replace q167 := eq_true q167))
   go_ret
   exact ⟨eq_, bel⟩
  rw [if_neg c7] at H
  have c7b0 : ((rd t164 0) == 1000000000) = false := beq_eq_false_iff_ne.mpr c7
  have c7b1 : ((rd t164 0) != 1000000000) = true := bne_iff_ne.mpr c7
  have H' := am H
  clear H; go_enter Try.func41, Try.ntmps41
  go_wp2_with (first | ((with_reducible refine gate_callee (f := 37) rfl ?_); refine goesL_ (some 13) rfl rfl Try.func37 (by kernel_rfl) rfl #[.slice A0 l0.length c0, .string a1] rfl mq ?_; (with_reducible refine (impl_MachineKnows.calls k _ _ l0 a1 true _ ?side1 ?side2 A3.out).mono ?_); (case side1 => repeat (first | exact HR0.out | (with_reducible refine Kd.C_alloc ?_ _) | (with_reducible refine Kd.C_drewN ?_ _) | (with_reducible refine Kd.C_drew ?_))); (case side2 => exact HC0.out); rintro e w11 ⟨rfl, hb⟩; refine ⟨_, rfl, ?_⟩; replace HB := am (below_step bel hb); (try clear hb); (try clear hb2); (try clear hk); (try clear hi)) | ((with_reducible refine gate_callee (f := 80) rfl ?_); refine goesL_ (some 16) rfl rfl Try.func80 (by kernel_rfl) rfl #[.slice A0 l0.length c0] rfl mq ?_; (with_reducible refine (impl_counts.calls k _ _ l0 t164 _ ?side1 ?side2 A5.out).mono ?_); (case side1 => exact cq (Kd.C_below HR0.out HB.out)); (case side2 => exact HC0.out); rintro e w12 ⟨v165, rfl, ho0, hb⟩; refine ⟨_, rfl, ?_⟩; have HO166 := am (Kd.R_lower ho0 (below_size bel)); replace HB := am (below_step bel hb); (try clear hb); (try clear hb2); (try clear hk); (try clear hi); (try clear ho0); obtain ⟨Ao13, co13, eo13⟩ := Kd.R_slice HO166.out; subst eo13; have p167 : 0 ≤ (0 : Int) := (by omega); have q167 : 0 < (t164.length : Int) := of_decide_eq_true ad; obtain ⟨ad167, e167, hx167_0⟩ := Kd.at_int (Kd.R_reads' HO166.out).2.2 0 p167 q167; cases e167; have qi167 : (0 < t164.length) = True := eq_true (by omega); (try rw [show ((0 : Int)).toNat = 0 from rfl] at hx167_0); (try rw [Addr.add_zero'] at hx167_0); replace p167 := eq_true p167; replace q167 := eq_true q167))
  go_loopg [6, 7, 23] k (fun kq v6 v7 v23 w' => ∃ (x6_1 : Int) (x7_1 : Int) (x23_1 : Int), v6 = .int .i64 x6_1 ∧ v7 = .int .i64 x7_1 ∧ v23 = .int .i64 x23_1 ∧ Aside0 (impl_MachineRank.l0 kq l0 a1 t164 x6_1 x7_1 (a1.size : Int) x23_1 = some r) ∧ Aside0 (kq ≤ k) ∧ Aside0 (Kd.R (Kd.int .i64) 3 w' w.heap.size (fun _ => True) (.slice (some ad167) t164.length co13) t164) ∧ Aside0 (Below w.heap.size w w'))
  case atStart => exact ⟨(0), (0), (0), sq, sq, sq, H', ⟨Nat.le_refl _⟩, ⟨rq HO166.out⟩, ⟨bel⟩⟩
  case round =>
   clear H'; (try clear p1); (try clear q1); (try clear hx1); (try clear qi1); (try clear p2); (try clear c3); (try clear c4); (try clear c6); (try clear c6b0); (try clear c6b1); (try clear c7); (try clear c7b0); (try clear c7b1); (try clear c8); (try clear hx167_0); (try clear p167); (try clear q167); obtain ⟨x6_1, x7_1, x23_1, rfl, rfl, rfl, HA, HK1, HO_5, HB⟩ := hrel
   cases gk with
   | zero => exact absurd HA.out (by simp [impl_MachineRank.l0])
   | succ k1 =>
    have H := HA.out; clear HA
    simp only [impl_MachineRank.l0] at H
    by_cases c14 : x23_1 < (a1.size : Int)
    ·rw [if_pos c14] at H; have c14b0 := decide_eq_true c14; clear c14
     replace H := it H; obtain ⟨c15b0, H⟩ := H
     replace H := it H; obtain ⟨c16b0, H⟩ := H; have HC17 := am H; clear H
     have p168 : 0 ≤ (x7_1 : Int) := of_decide_eq_true ad
     have q168 : x7_1 < (l0.length : Int) := of_decide_eq_true ad
     obtain ⟨ad168, A168_1, c168_1, e168, hx168_0, hx168_1, hl168_1, hi168_1⟩ := at_T94 HR0.out x7_1 p168 q168
     cases e168
     replace hx168_0 := kp HB.out hx168_0; replace hx168_1 := kp HB.out hx168_1; have HR168_1 := am hi168_1; have HC168_1 := am hl168_1; clear hi168_1 hl168_1; replace p168 := eq_true p168; replace q168 := eq_true q168
     go_upto_if 30 with (fail)
     go_cut [6] (fun v6 wc => ∃ (kq : Nat) (x6_16 : Int), v6 = .int .i64 x6_16 ∧ Aside0 (impl_MachineRank.j1 kq l0 a1 t164 x6_16 x7_1 x23_1 (a1.size : Int) x23_1 = some r) ∧ Aside0 (kq ≤ k1) ∧ Aside0 (Kd.R (Kd.int .i64) 3 wc w.heap.size (fun _ => True) (.slice (some ad167) t164.length co13) t164) ∧ Aside0 (Below w.heap.size w wc))
     case first =>
      have H := HC17.out; clear HC17; obtain ⟨bq18, hbq18⟩ : ∃ b_ : Bool, b_ = ((rd_T94 l0 x7_1).f0) := ⟨_, rfl⟩
      replace H : (if bq18 = true then (impl_MachineRank.j1 k1 l0 a1 t164 (wrap64 (x6_1 + 1)) x7_1 x23_1 (a1.size : Int) x23_1) else (impl_MachineRank.j1 k1 l0 a1 t164 x6_1 x7_1 x23_1 (a1.size : Int) x23_1)) = some r := by rw [← hbq18] at H; exact H
      have Nbq18 := am hbq18; clear hbq18
      (try rw [← Nbq18.out])
      by_cases c19 : bq18 = true
      ·subst c19
       have H1 : (impl_MachineRank.j1 k1 l0 a1 t164 (wrap64 (x6_1 + 1)) x7_1 x23_1 (a1.size : Int) x23_1) = some r := b21_
       replace H := H1; clear H1
       have H' := am H
       clear H; go_wp2
       go_meet
       case rel => exact ⟨_, (wrap64 (x6_1 + 1)), sq, H', ⟨b27_⟩, ⟨rq HO_5.out⟩, ⟨bel⟩⟩
      replace c19 := Bool.eq_false_iff.mpr c19; subst c19
      (try rw [← Nbq18.out] at hx168_0)
      (try rw [← Nbq18.out])
      have H1 : (impl_MachineRank.j1 k1 l0 a1 t164 x6_1 x7_1 x23_1 (a1.size : Int) x23_1) = some r := b6_
      replace H := H1; clear H1
      have H' := am H
      clear H; go_wp2
      go_meet
      case rel => (try rw [← Nbq18.out]); exact ⟨_, (x6_1), sq, H', ⟨b27_⟩, ⟨rq HO_5.out⟩, ⟨bel⟩⟩
     case rest =>
      clear HC17; (try clear c1); (try clear p1); (try clear q1); (try clear hx1); (try clear qi1); (try clear p2); (try clear c3); (try clear c4); (try clear c6); (try clear c6b0); (try clear c6b1); (try clear p6); (try clear c7); (try clear c7b0); (try clear c7b1); (try clear c8); (try clear c14); (try clear c14b0); (try clear c15); (try clear c15b0); (try clear c16); (try clear c16b0); (try clear p16); (try clear q16); (try clear hx16); (try clear qi16); (try clear q18); (try clear c19); (try clear hx167_0); (try clear hx168_0); (try clear hx168_1); (try clear p1); (try clear p167); (try clear p168); (try clear p2); (try clear q1); (try clear q167); (try clear q168); obtain ⟨kq, x6_16, rfl, HA, HJ16, HO_5, HB⟩ := hcut
      cases kq with
      | zero => exact absurd HA.out (by simp [impl_MachineRank.j1])
      | succ kj16 =>
       have H := HA.out; clear HA
       simp only [impl_MachineRank.j1] at H
       replace H := it H; obtain ⟨c20b0, H⟩ := H
       replace H := it H; obtain ⟨c21b0, H⟩ := H
       have H' := am H
       clear H
       have p169 : 0 ≤ (x7_1 : Int) := of_decide_eq_true ad
       have q169 : x7_1 < (l0.length : Int) := of_decide_eq_true ad
       obtain ⟨ad169, A169_1, c169_1, e169, hx169_0, hx169_1, hl169_1, hi169_1⟩ := at_T94 HR0.out x7_1 p169 q169
       obtain rfl : ad168 = ad169 := (by injection e169)
       replace hx169_0 := kp HB.out hx169_0; replace hx169_1 := kp HB.out hx169_1; have HR169_1 := am hi169_1; have HC169_1 := am hl169_1; clear hi169_1 hl169_1; replace p169 := eq_true p169; replace q169 := eq_true q169; go_wp2
       go_loopg [6, 39] kj16 (fun kq v6 v39 w' => ∃ (x6_3 : Int) (x39_3 : Int), v6 = .int .i64 x6_3 ∧ v39 = .int .i64 x39_3 ∧ Aside0 (impl_MachineRank.l1 kq l0 a1 t164 x6_3 x7_1 x23_1 (a1.size : Int) x23_1 ((rd_T94 l0 x7_1).f1) (((rd_T94 l0 x7_1).f1).length : Int) x39_3 = some r) ∧ Aside0 (kq ≤ kj16) ∧ Aside0 (Kd.R (Kd.int .i64) 3 w' w.heap.size (fun _ => True) (.slice (some ad167) t164.length co13) t164) ∧ Aside0 (Below w.heap.size w w'))
       case atStart => exact ⟨(x6_16), (0), sq, sq, H', ⟨Nat.le_refl _⟩, ⟨rq HO_5.out⟩, ⟨bel⟩⟩
       case round =>
        clear H'; (try clear c1); (try clear p1); (try clear q1); (try clear hx1); (try clear qi1); (try clear c2); (try clear p2); (try clear c3); (try clear c4); (try clear c6); (try clear c6b0); (try clear c6b1); (try clear p6); (try clear c7); (try clear c7b0); (try clear c7b1); (try clear c8); (try clear c14); (try clear c14b0); (try clear c15); (try clear c15b0); (try clear c16); (try clear c16b0); (try clear p16); (try clear q16); (try clear hx16); (try clear qi16); (try clear q18); (try clear c19); (try clear c20); (try clear c20b0); (try clear c21); (try clear c21b0); (try clear hx167_0); (try clear hx168_0); (try clear hx168_1); (try clear hx169_0); (try clear hx169_1); (try clear p1); (try clear p16); (try clear p167); (try clear p168); (try clear p169); (try clear p2); (try clear p6); (try clear q1); (try clear q16); (try clear q167); (try clear q168); (try clear q169); (try clear q18); obtain ⟨x6_3, x39_3, rfl, rfl, HA, HK3, HO_5, HB⟩ := hrel
        cases gk with
        | zero => exact absurd HA.out (by simp [impl_MachineRank.l1])
        | succ k3 =>
         have H := HA.out; clear HA
         simp only [impl_MachineRank.l1] at H
         by_cases c22 : x39_3 < (((rd_T94 l0 x7_1).f1).length : Int)
         ·rw [if_pos c22] at H; have c22b0 := decide_eq_true c22; clear c22
          replace H := it H; obtain ⟨c23b0, H⟩ := H
          replace H := it H; obtain ⟨c24b0, H⟩ := H
          replace H := it H; obtain ⟨c25b0, H⟩ := H
          replace H := it H; obtain ⟨c26b0, H⟩ := H
          by_cases c28 : ((rd_T100 ((rd_T94 l0 x7_1).f1) x39_3).f0) < (wrap64 (bt a1 x23_1))
          ·rw [if_pos c28] at H; have c28b0 := decide_eq_true c28; clear c28
           replace H := it H; obtain ⟨c29b0, H⟩ := H
           replace H := it H; obtain ⟨c30b0, H⟩ := H
           have H' := am H
           clear H
           have p170 : 0 ≤ (x39_3 : Int) := of_decide_eq_true ad
           have q170 : x39_3 < (((rd_T94 l0 x7_1).f1).length : Int) := of_decide_eq_true ad
           obtain ⟨ad170, e170, hx170_0, hx170_1⟩ := at_T100 HR169_1.out x39_3 p170 q170
           cases e170
           replace hx170_0 := kp HB.out hx170_0; replace hx170_1 := kp HB.out hx170_1; replace p170 := eq_true p170; replace q170 := eq_true q170
           try go_wp2_with (first | ((with_reducible refine gate_dst (N := 10) rfl ?_); refine bx 10 (cs := #[.int .i64 0, .int .i64 0]) (t := 100) ?_; intro gb171 hg w31 hbox hb; replace HO_5 := am (Kd.R_below (rq HO_5.out) hb); have BK171 := am (hbox); have GW171 := am ((b7_ : w.heap.size ≤ gb171)); have GE171 := am ((b7_ : w.heap.size ≤ gb171)); replace HB := am (below_step bel hb); clear hb hbox hg; have hcz32_0 := bc BK171.out 0; have hcz32_1 := bc BK171.out 1; have hfz32_0 := bf BK171.out 0; have hfz32_1 := bf BK171.out 1))
           have n0_ : Aside0 (Kd.R (Kd.int .i64) 3 ((w31.setCell ⟨gb171, 0, none⟩ (.int .i64 ((rd_T100 ((rd_T94 l0 x7_1).f1) x39_3).f0))).setCell ⟨gb171, 1, none⟩ (.int .i64 ((rd_T100 ((rd_T94 l0 x7_1).f1) x39_3).f1))) w.heap.size (fun _ => True) (.slice (some ad167) t164.length co13) t164) := ⟨rq (Kd.R_mono (Kd.R_far (p := ⟨gb171, 1, none⟩) (Kd.R_far (p := ⟨gb171, 0, none⟩) (Kd.R_types HO_5.out BK171.out (by decide)) (fun _ hk => hk.2) (.int .i64 ((rd_T100 ((rd_T94 l0 x7_1).f1) x39_3).f0))) (fun _ hk => hk.2) (.int .i64 ((rd_T100 ((rd_T94 l0 x7_1).f1) x39_3).f1))) (fun _ hk => trivial))⟩
           have n1_ : Aside0 (((w31.setCell ⟨gb171, 0, none⟩ (.int .i64 ((rd_T100 ((rd_T94 l0 x7_1).f1) x39_3).f0))).setCell ⟨gb171, 1, none⟩ (.int .i64 ((rd_T100 ((rd_T94 l0 x7_1).f1) x39_3).f1))).heap[gb171]? = some (.cells #[.int .i64 ((rd_T100 ((rd_T94 l0 x7_1).f1) x39_3).f0), .int .i64 ((rd_T100 ((rd_T94 l0 x7_1).f1) x39_3).f1)] 100 (0, 0))) := ⟨b24_⟩
           have n2_ : Aside0 (Below w.heap.size w ((w31.setCell ⟨gb171, 0, none⟩ (.int .i64 ((rd_T100 ((rd_T94 l0 x7_1).f1) x39_3).f0))).setCell ⟨gb171, 1, none⟩ (.int .i64 ((rd_T100 ((rd_T94 l0 x7_1).f1) x39_3).f1)))) := ⟨bel1 GE171.out⟩
           (try clear HO_5)
           (try clear BK171)
           (try clear HB)
           generalize ((w31.setCell ⟨gb171, 0, none⟩ (.int .i64 ((rd_T100 ((rd_T94 l0 x7_1).f1) x39_3).f0))).setCell ⟨gb171, 1, none⟩ (.int .i64 ((rd_T100 ((rd_T94 l0 x7_1).f1) x39_3).f1))) = w33 at n0_ n1_ n2_ ⊢
           have HO_5 := n0_; have BK171 := n1_; have HB := n2_; clear n0_ n1_ n2_; replace HO_5 := am (Kd.R_drew HO_5.out); replace BK171 := am (blk_drew BK171.out); replace HB := am (below_drew1 HB.out)
           have p27 : 0 ≤ (x23_1 : Int) := of_decide_eq_true ad
           have q27 : x23_1 < (a1.size : Int) := of_decide_eq_true ad
           have hx27 := bt_at a1 x23_1; replace p27 := eq_true p27; replace q27 := eq_true q27
           refine st (n := 7) (S := fun w' => w'.cell? ⟨gb171, 0, none⟩ = some (.int .i64 ((rd_T100 ((rd_T94 l0 x7_1).f1) x39_3).f0)) ∧ w'.cell? ⟨gb171, 1, none⟩ = some (.int .i64 ((rd_T100 ((rd_T94 l0 x7_1).f1) x39_3).f1))) (ds := []) ⟨(blk_cell BK171.out 0).trans rfl, (blk_cell BK171.out 1).trans rfl⟩ (fun hHeld => ?_)
           generalize w33.drew = w34 at HO_5 BK171 HB hHeld ⊢
           refine pk 0 43 ?_
           refine pk 2 45 ?_
           refine pk 3 46 ?_
           refine kk2 1 44 hHeld ?_
           refine kk2 4 47 hHeld ?_
           refine pk 5 48 ?_
           refine pk 6 49 ?_
           refine done_ (by kernel_rfl) ?_
           have hcz35_0 : w34.cell? ⟨gb171, 0, none⟩ = some (.int .i64 ((rd_T100 ((rd_T94 l0 x7_1).f1) x39_3).f0)) := (blk_cell BK171.out 0).trans rfl
           have hcz35_1 : w34.cell? ⟨gb171, 1, none⟩ = some (.int .i64 ((rd_T100 ((rd_T94 l0 x7_1).f1) x39_3).f1)) := (blk_cell BK171.out 1).trans rfl
           have hfz35_0 := bf BK171.out 0; have hfz35_1 := bf BK171.out 1
           have p172 : 0 ≤ (((rd_T100 ((rd_T94 l0 x7_1).f1) x39_3).f1) : Int) := of_decide_eq_true ad
           have q172 : ((rd_T100 ((rd_T94 l0 x7_1).f1) x39_3).f1) < (t164.length : Int) := of_decide_eq_true ad
           obtain ⟨ad172, e172, hx172_0⟩ := Kd.at_int (Kd.R_reads' HO_5.out).2.2 ((rd_T100 ((rd_T94 l0 x7_1).f1) x39_3).f1) p172 q172
           obtain rfl : ad167 = ad172 := (by injection e172)
           replace p172 := eq_true p172; replace q172 := eq_true q172
           try go_wp2
           go_roundg k3
           case measure => have := HK1.out; have := HJ16.out; have := HK3.out; omega
           case rel => exact ⟨(wrap64 (x6_3 + (rd t164 ((rd_T100 ((rd_T94 l0 x7_1).f1) x39_3).f1)))), (wrap64 (x39_3 + 1)), sq, sq, H', ⟨by have := HK1.out; have := HJ16.out; have := HK3.out; omega⟩, ⟨rq HO_5.out⟩, ⟨bel1 GE171.out⟩⟩
          rw [if_neg c28] at H; have c28b0 := decide_eq_false c28; clear c28
          have H' := am H
          clear H
          have p170 : 0 ≤ (x39_3 : Int) := of_decide_eq_true ad
          have q170 : x39_3 < (((rd_T94 l0 x7_1).f1).length : Int) := of_decide_eq_true ad
          obtain ⟨ad170, e170, hx170_0, hx170_1⟩ := at_T100 HR169_1.out x39_3 p170 q170
          cases e170
          replace hx170_0 := kp HB.out hx170_0; replace hx170_1 := kp HB.out hx170_1; replace p170 := eq_true p170; replace q170 := eq_true q170
          try go_wp2_with (first | ((with_reducible refine gate_dst (N := 10) rfl ?_); refine bx 10 (cs := #[.int .i64 0, .int .i64 0]) (t := 100) ?_; intro gb171 hg w36 hbox hb; replace HO_5 := am (Kd.R_below (rq HO_5.out) hb); have BK171 := am (hbox); have GW171 := am ((b7_ : w.heap.size ≤ gb171)); have GE171 := am ((b7_ : w.heap.size ≤ gb171)); replace HB := am (below_step bel hb); clear hb hbox hg; have hcz37_0 := bc BK171.out 0; have hcz37_1 := bc BK171.out 1; have hfz37_0 := bf BK171.out 0; have hfz37_1 := bf BK171.out 1))
          have n0_ : Aside0 (Kd.R (Kd.int .i64) 3 ((w36.setCell ⟨gb171, 0, none⟩ (.int .i64 ((rd_T100 ((rd_T94 l0 x7_1).f1) x39_3).f0))).setCell ⟨gb171, 1, none⟩ (.int .i64 ((rd_T100 ((rd_T94 l0 x7_1).f1) x39_3).f1))) w.heap.size (fun _ => True) (.slice (some ad167) t164.length co13) t164) := ⟨rq (Kd.R_mono (Kd.R_far (p := ⟨gb171, 1, none⟩) (Kd.R_far (p := ⟨gb171, 0, none⟩) (Kd.R_types HO_5.out BK171.out (by decide)) (fun _ hk => hk.2) (.int .i64 ((rd_T100 ((rd_T94 l0 x7_1).f1) x39_3).f0))) (fun _ hk => hk.2) (.int .i64 ((rd_T100 ((rd_T94 l0 x7_1).f1) x39_3).f1))) (fun _ hk => trivial))⟩
          have n1_ : Aside0 (((w36.setCell ⟨gb171, 0, none⟩ (.int .i64 ((rd_T100 ((rd_T94 l0 x7_1).f1) x39_3).f0))).setCell ⟨gb171, 1, none⟩ (.int .i64 ((rd_T100 ((rd_T94 l0 x7_1).f1) x39_3).f1))).heap[gb171]? = some (.cells #[.int .i64 ((rd_T100 ((rd_T94 l0 x7_1).f1) x39_3).f0), .int .i64 ((rd_T100 ((rd_T94 l0 x7_1).f1) x39_3).f1)] 100 (0, 0))) := ⟨b24_⟩
          have n2_ : Aside0 (Below w.heap.size w ((w36.setCell ⟨gb171, 0, none⟩ (.int .i64 ((rd_T100 ((rd_T94 l0 x7_1).f1) x39_3).f0))).setCell ⟨gb171, 1, none⟩ (.int .i64 ((rd_T100 ((rd_T94 l0 x7_1).f1) x39_3).f1)))) := ⟨bel1 GE171.out⟩
          (try clear HO_5)
          (try clear BK171)
          (try clear HB)
          generalize ((w36.setCell ⟨gb171, 0, none⟩ (.int .i64 ((rd_T100 ((rd_T94 l0 x7_1).f1) x39_3).f0))).setCell ⟨gb171, 1, none⟩ (.int .i64 ((rd_T100 ((rd_T94 l0 x7_1).f1) x39_3).f1))) = w38 at n0_ n1_ n2_ ⊢
          have HO_5 := n0_; have BK171 := n1_; have HB := n2_; clear n0_ n1_ n2_; replace HO_5 := am (Kd.R_drew HO_5.out); replace BK171 := am (blk_drew BK171.out); replace HB := am (below_drew1 HB.out)
          have p27 : 0 ≤ (x23_1 : Int) := of_decide_eq_true ad
          have q27 : x23_1 < (a1.size : Int) := of_decide_eq_true ad
          have hx27 := bt_at a1 x23_1; replace p27 := eq_true p27; replace q27 := eq_true q27
          refine st (n := 7) (S := fun w' => w'.cell? ⟨gb171, 0, none⟩ = some (.int .i64 ((rd_T100 ((rd_T94 l0 x7_1).f1) x39_3).f0)) ∧ w'.cell? ⟨gb171, 1, none⟩ = some (.int .i64 ((rd_T100 ((rd_T94 l0 x7_1).f1) x39_3).f1))) (ds := []) ⟨(blk_cell BK171.out 0).trans rfl, (blk_cell BK171.out 1).trans rfl⟩ (fun hHeld => ?_)
          generalize w38.drew = w39 at HO_5 BK171 HB hHeld ⊢
          refine pk 0 43 ?_
          refine pk 2 45 ?_
          refine pk 3 46 ?_
          refine kk2 1 44 hHeld ?_
          refine kk2 4 47 hHeld ?_
          refine pk 5 48 ?_
          refine pk 6 49 ?_
          refine done_ (by kernel_rfl) ?_
          try go_wp2
          go_roundg k3
          case measure => have := HK1.out; have := HJ16.out; have := HK3.out; omega
          case rel => exact ⟨(x6_3), (wrap64 (x39_3 + 1)), sq, sq, H', ⟨by have := HK1.out; have := HJ16.out; have := HK3.out; omega⟩, ⟨rq HO_5.out⟩, ⟨bel1 GE171.out⟩⟩
         rw [if_neg c22] at H; have c22b0 := decide_eq_false c22; clear c22
         replace H := it H; obtain ⟨c40b0, H⟩ := H
         replace H := it H; obtain ⟨c41b0, H⟩ := H
         replace H := it H; obtain ⟨c42b0, H⟩ := H
         replace H := it H; obtain ⟨c43b0, H⟩ := H; replace H := bs H; obtain ⟨t174, A450, H⟩ := H; replace H : (impl_MachineRank.l0 k3 l0 a1 t164 x6_3 t174 (a1.size : Int) (wrap64 (x23_1 + 1))) = some r := H; have A45 := Aside0.mk A450; clear A450
         have H' := am H
         clear H
         try go_wp2
         replace HO_5 := am (Kd.R_drew HO_5.out); replace HB := am (below_drew1 HB.out)
         have p173 : 0 ≤ (x7_1 : Int) := of_decide_eq_true ad
         have q173 : x7_1 < (l0.length : Int) := of_decide_eq_true ad
         obtain ⟨ad173, A173_1, c173_1, e173, hx173_0, hx173_1, hl173_1, hi173_1⟩ := at_T94 HR0.out x7_1 p173 q173; have hw173_1 := hx173_1; have hw173_0 := hx173_0
         obtain rfl : ad168 = ad173 := (by injection e173)
         replace hx173_0 := kp HB.out hx173_0; replace hx173_1 := kp HB.out hx173_1; have HR173_1 := am hi173_1; have HC173_1 := am hl173_1; clear hi173_1 hl173_1; replace p173 := eq_true p173; replace q173 := eq_true q173
         have p44 : 0 ≤ (x23_1 : Int) := of_decide_eq_true ad
         have q44 : x23_1 < (a1.size : Int) := of_decide_eq_true ad
         have hx44 := bt_at a1 x23_1; replace p44 := eq_true p44; replace q44 := eq_true q44
         refine st (n := 9) (S := fun w' => w'.cell? (ad168.add ((x7_1).toNat * 2)) = some (.bool ((rd_T94 l0 x7_1).f0)) ∧ w'.cell? ⟨(ad168.add ((x7_1).toNat * 2)).block, (ad168.add ((x7_1).toNat * 2)).off + 1, none⟩ = some (.slice A173_1 ((rd_T94 l0 x7_1).f1).length c173_1)) (ds := []) ⟨(kp HB.out hw173_0), (kp HB.out hw173_1)⟩ (fun hHeld => ?_); refine with_tabW impl_MachineRank.tab18 impl_MachineRank.bits18 (fun HT_ HW_ => ?_)
         generalize wr.drew = w46 at HO_5 HB HR173_1 hx173_0 hx173_1 hHeld ⊢
         refine pu 0 58 ?_
         refine pu 1 59 ?_
         refine pu 2 60 ?_
         refine pu 4 62 ?_
         refine pu 5 63 ?_
         refine tk2 3 61 hHeld ?_
         refine tk2 6 64 hHeld ?_
         refine on1 7 65 (fun K hK => ?_)
         refine goes_ Try.func84 (by kernel_rfl) rfl #[.agg #[.bool ((rd_T94 l0 x7_1).f0), .slice A173_1 ((rd_T94 l0 x7_1).f1).length c173_1], .int .u8 (bt a1 x23_1)] (by rfl) rfl rfl mq ?_
         with_reducible refine (impl_State_step.calls k3 ((rd_T94 l0 x7_1).f0) _ _ ((rd_T94 l0 x7_1).f1) (bt a1 x23_1) t174 _ ?side1 ?side2 A45.out).mono ?_
         (case side1 => exact cq (Kd.C_below HR173_1.out HB.out)); (case side2 => exact HC173_1.out)
         rintro e w47 ⟨rfl, hb⟩
         refine ⟨_, rfl, ?_⟩
         replace HO_5 := am (Kd.R_below (rq HO_5.out) hb); replace HB := am (below_step bel hb)
         (try clear hb)
         (try clear hb2)
         (try clear hk)
         (try clear hi)
         refine hK.out _ _ ⟨(kp HB.out hw173_0), (kp HB.out hw173_1)⟩ (fun hHeld => ?_)
         clear hK K
         refine norm_ (a' := ?_) ?_ ?_
         rotate_left
         ·show Act.put _ (some 65) _ = _
          simp only [Act.put, List.setIfInBounds_toArray, List.set_cons_zero, List.set_cons_succ, i64_w, i32_w]
          rfl
         refine pu 8 7 ?_
         refine done_ (done_of HT_.out (by kernel_rfl)) ?_
         try go_wp2
         go_roundg k3
         case measure => have := HK1.out; have := HJ16.out; have := HK3.out; omega
         case rel => exact ⟨(x6_3), (t174), (wrap64 (x23_1 + 1)), sq, sq, sq, H', ⟨by have := HK1.out; have := HJ16.out; have := HK3.out; omega⟩, ⟨rq HO_5.out⟩, ⟨bel⟩⟩
    rw [if_neg c14] at H; have c14b0 := decide_eq_false c14; clear c14; obtain rfl := Option.some.inj H; go_wp2; go_ret
    exact ⟨eq_, bel⟩
 replace c4 := Bool.eq_false_iff.mpr c4; subst c4
 have H1 : (some (-1)) = some r := b6_
 replace H := H1; clear H1
 obtain rfl := Option.some.inj H; go_enter Try.func41, Try.ntmps41
 go_wp2_with (first | ((with_reducible refine gate_callee (f := 37) rfl ?_); refine goesL_ (some 13) rfl rfl Try.func37 (by kernel_rfl) rfl #[.slice A0 l0.length c0, .string a1] rfl mq ?_; (with_reducible refine (impl_MachineKnows.calls k _ _ l0 a1 false _ ?side1 ?side2 A3.out).mono ?_); (case side1 => repeat (first | exact HR0.out | (with_reducible refine Kd.C_alloc ?_ _) | (with_reducible refine Kd.C_drewN ?_ _) | (with_reducible refine Kd.C_drew ?_))); (case side2 => exact HC0.out); rintro e w48 ⟨rfl, hb⟩; refine ⟨_, rfl, ?_⟩; replace HB := am (below_step bel hb); (try clear hb); (try clear hb2); (try clear hk); (try clear hi)))
 go_ret
 exact ⟨eq_, bel⟩

/-! ### spec_l1In: function 78 -/
def spec_l1In.f (a0 : Int) (a1 : Int) (a2 : Int) : Option (Bool) := if a0 ≥ a1 then (some (decide (a0 ≤ a2))) else (some false)
theorem spec_l1In.calls (a0 : Int) (a1 : Int) (a2 : Int) (r : Bool) (w : World) (h : spec_l1In.f a0 a1 a2 = some r) :
  Calls Try.prog 78 #[.int .i64 a0, .int .i64 a1, .int .i64 a2] w fun e w' => e = .returned (.bool r) ∧ Drawn0 w w' := by
 have H : (if a0 ≥ a1 then (some (decide (a0 ≤ a2))) else (some false)) = some r := h
 clear h
 by_cases c4 : a0 ≥ a1
 ·rw [if_pos c4] at H; have c4b0 := decide_eq_true c4; clear c4; obtain rfl := Option.some.inj H; go_enter Try.func78, Try.ntmps78; go_wp2; go_ret
  exact ⟨sq, dr⟩
 rw [if_neg c4] at H; have c4b0 := decide_eq_false c4; clear c4; obtain rfl := Option.some.inj H; go_enter Try.func78, Try.ntmps78; go_wp2; go_ret
 exact ⟨sq, dr⟩
-- shrunk

/-! ### spec_l3Deep: function 79 -/
mutual
def spec_l3Deep.l0 : Nat → List (S94) → List Int → Int → Option (Int)
 | 0, _, _, _ => none
 | k + 1, x0, x3, x4 => if x4 ≥ 0 then (spec_l3Deep.l1 k x0 x3 x4 0) else (if 0 < (x3.length : Int) then (some (rd x3 0)) else (none))
def spec_l3Deep.l1 : Nat → List (S94) → List Int → Int → Int → Option (Int)
 | 0, _, _, _, _ => none
 | k + 1, x0, x3, x4, x5 => if 0 ≤ x4 then (if x4 < (x0.length : Int) then (if x5 < (((rd_T94 x0 x4).f1).length : Int) then (if 0 ≤ x5 then (if 0 ≤ ((rd_T100 ((rd_T94 x0 x4).f1) x5).f1) then (if ((rd_T100 ((rd_T94 x0 x4).f1) x5).f1) < (x3.length : Int) then (if x4 < (x3.length : Int) then (if (wrap64 ((rd x3 ((rd_T100 ((rd_T94 x0 x4).f1) x5).f1)) + 1)) > (rd x3 x4) then (spec_l3Deep.l1 k x0 (x3.set (x4 : Int).toNat (wrap64 ((rd x3 ((rd_T100 ((rd_T94 x0 x4).f1) x5).f1)) + 1))) x4 (wrap64 (x5 + 1))) else (spec_l3Deep.l1 k x0 x3 x4 (wrap64 (x5 + 1)))) else (none)) else (none)) else (none)) else (none)) else (spec_l3Deep.l0 k x0 x3 (wrap64 (x4 - 1)))) else (none)) else (none)
end
def spec_l3Deep.f (k : Nat) (l0 : List (S94)) : Option (Int) := if 0 ≤ (l0.length : Int) then (if l0.length ≤ 35184372088832 then (spec_l3Deep.l0 k l0 (List.replicate l0.length 0) (wrap64 ((l0.length : Int) - 1))) else (none)) else (none)
theorem spec_l3Deep.calls (k : Nat) (A0 : Option Addr) (c0 : Nat) (l0 : List (S94)) (r : Int) (w : World) (hr0 : Kd.C k94 w A0 l0.length l0) (hc0 : l0.length ≤ c0) (h : spec_l3Deep.f k l0 = some r) :
  Calls Try.prog 79 #[.slice A0 l0.length c0] w fun e w' => e = .returned (.int .i64 r) ∧ Below w.heap.size w w' := by
 have HR0 := am hr0; have HC0 := am hc0; clear hr0 hc0; have HB := am (Below.refl w.heap.size w)
 have H : (if 0 ≤ (l0.length : Int) then (if l0.length ≤ 35184372088832 then (spec_l3Deep.l0 k l0 (List.replicate l0.length 0) (wrap64 ((l0.length : Int) - 1))) else (none)) else (none)) = some r := h
 clear h
 replace H := ip H; obtain ⟨c2, H⟩ := H; have c2b0 := eq_true c2
 have c2b1 : decide (0 ≤ (l0.length : Int)) = true := decide_eq_true c2
 clear c2
 replace H := ip H; obtain ⟨c3, H⟩ := H; have c3b0 := eq_true c3
 have c3b1 : decide (l0.length ≤ 35184372088832) = true := decide_eq_true c3
 clear c3; obtain ⟨y175, hy175⟩ : ∃ y_ : List Int, y_ = (List.replicate l0.length 0) := ⟨_, rfl⟩
 replace H : (spec_l3Deep.l0 k l0 y175 (wrap64 ((l0.length : Int) - 1))) = some r := by first | (rw [hy175]; with_reducible exact H) | (have H2_ := bm H; rw [hy175]; with_reducible exact H2_) | (with_reducible exact bm H) | with_reducible exact H | (rw [hy175]; exact H) | exact H
 have Ny175 := am hy175; clear hy175
 have H' := am H
 clear H; go_enter Try.func79, Try.ntmps79
 go_wp2_with (first | ((with_reducible refine gate_dst (N := 9) rfl ?_); refine Kd.R_make (Kd.int .i64) _ 3 rfl (N := 9) rfl 86 _ _ rfl (l0.length : Int) rfl rfl Try.underlying86 (.int .i64 0) 8 info3 rfl (by decide) (by omega) 0 (ok := fun _ => True) (okp := fun _ => True) rfl (fun _ hk => hk) trivial (of_decide_eq_true ad) (Nat.le_trans (Nat.mul_le_mul_right _ (of_decide_eq_true ad : (l0.length : Int).toNat ≤ 35184372088832)) (by omega)) (Below.refl _ _) (Nat.le_refl _) ?_; intro v176 w4 ho5 hb hg_ hnew_; clear hg_ hnew_; (first | rw [← Ny175.out] at ho5 | (simp only [Int.reduceToNat] at ho5; rw [← Ny175.out] at ho5) | (simp only [Int.toNat_natCast] at ho5; rw [← Ny175.out] at ho5)); have HO177 := am (Kd.R_lower ho5 (below_size bel)); replace HB := am (below_step bel hb); clear hb ho5))
 go_loopg [4] k (fun kq v4 w' => ∃ (x3_1 : List Int) (x4_1 : Int), v4 = .int .i64 x4_1 ∧ Aside0 (spec_l3Deep.l0 kq l0 x3_1 x4_1 = some r) ∧ Aside0 (kq ≤ k) ∧ Aside0 (Kd.R (Kd.int .i64) 3 w' w.heap.size (fun _ => True) v176 x3_1) ∧ Aside0 (Below w.heap.size w w'))
 case atStart => exact ⟨(y175), (wrap64 ((l0.length : Int) - 1)), sq, H', ⟨Nat.le_refl _⟩, ⟨rq HO177.out⟩, ⟨bel⟩⟩
 case round =>
  clear H'; (try clear c2); (try clear c2b0); (try clear c2b1); (try clear p2); (try clear c3); (try clear c3b0); (try clear c3b1); obtain ⟨x3_1, x4_1, rfl, HA, HK1, HO_3, HB⟩ := hrel
  cases gk with
  | zero => exact absurd HA.out (by simp [spec_l3Deep.l0])
  | succ k1 =>
   have H := HA.out; clear HA
   simp only [spec_l3Deep.l0] at H
   by_cases c6 : x4_1 ≥ 0
   ·rw [if_pos c6] at H; have c6b0 := decide_eq_true c6; clear c6
    have H' := am H
    clear H; go_wp2
    go_loopg [5] k1 (fun kq v5 w' => ∃ (x3_2 : List Int) (x5_2 : Int), v5 = .int .i64 x5_2 ∧ Aside0 (spec_l3Deep.l1 kq l0 x3_2 x4_1 x5_2 = some r) ∧ Aside0 (kq ≤ k1) ∧ Aside0 (Kd.R (Kd.int .i64) 3 w' w.heap.size (fun _ => True) v176 x3_2) ∧ Aside0 (Below w.heap.size w w'))
    case atStart => exact ⟨(x3_1), (0), sq, H', ⟨Nat.le_refl _⟩, ⟨rq HO_3.out⟩, ⟨bel⟩⟩
    case round =>
     clear H'; (try clear c2); (try clear c2b0); (try clear c2b1); (try clear p2); (try clear c3); (try clear c3b0); (try clear c3b1); (try clear c6); (try clear c6b0); (try clear p6); (try clear p2); obtain ⟨x3_2, x5_2, rfl, HA, HK2, HO_3, HB⟩ := hrel
     cases gk with
     | zero => exact absurd HA.out (by simp [spec_l3Deep.l1])
     | succ k2 =>
      have H := HA.out; clear HA
      simp only [spec_l3Deep.l1] at H
      replace H := it H; obtain ⟨c7b0, H⟩ := H
      replace H := it H; obtain ⟨c8b0, H⟩ := H
      by_cases c9 : x5_2 < (((rd_T94 l0 x4_1).f1).length : Int)
      ·rw [if_pos c9] at H; have c9b0 := decide_eq_true c9; clear c9
       replace H := it H; obtain ⟨c10b0, H⟩ := H
       replace H := it H; obtain ⟨c11b0, H⟩ := H
       replace H := it H; obtain ⟨c12b0, H⟩ := H
       replace H := it H; obtain ⟨c13b0, H⟩ := H
       by_cases c14 : (wrap64 ((rd x3_2 ((rd_T100 ((rd_T94 l0 x4_1).f1) x5_2).f1)) + 1)) > (rd x3_2 x4_1)
       ·rw [if_pos c14] at H; have c14b0 := decide_eq_true c14; clear c14; obtain ⟨y184, hy184⟩ : ∃ y_ : List Int, y_ = (x3_2.set (x4_1 : Int).toNat (wrap64 ((rd x3_2 ((rd_T100 ((rd_T94 l0 x4_1).f1) x5_2).f1)) + 1))) := ⟨_, rfl⟩
        replace H : (spec_l3Deep.l1 k2 l0 y184 x4_1 (wrap64 (x5_2 + 1))) = some r := by first | (rw [hy184]; with_reducible exact H) | (have H2_ := bm H; rw [hy184]; with_reducible exact H2_) | (with_reducible exact bm H) | with_reducible exact H | (rw [hy184]; exact H) | exact H
        have Ny184 := am hy184; clear hy184
        have H' := am H
        clear H
        have p179 : 0 ≤ (x4_1 : Int) := of_decide_eq_true ad
        have q179 : x4_1 < (l0.length : Int) := of_decide_eq_true ad
        obtain ⟨ad179, A179_1, c179_1, e179, hx179_0, hx179_1, hl179_1, hi179_1⟩ := at_T94 HR0.out x4_1 p179 q179
        cases e179
        replace hx179_0 := kp HB.out hx179_0; replace hx179_1 := kp HB.out hx179_1; have HR179_1 := am hi179_1; have HC179_1 := am hl179_1; clear hi179_1 hl179_1; replace p179 := eq_true p179; replace q179 := eq_true q179
        have p180 : 0 ≤ (x4_1 : Int) := of_decide_eq_true ad
        have q180 : x4_1 < (l0.length : Int) := of_decide_eq_true ad
        obtain ⟨ad180, A180_1, c180_1, e180, hx180_0, hx180_1, hl180_1, hi180_1⟩ := at_T94 HR0.out x4_1 p180 q180
        obtain rfl : ad179 = ad180 := (by injection e180)
        replace hx180_0 := kp HB.out hx180_0; replace hx180_1 := kp HB.out hx180_1; have HR180_1 := am hi180_1; have HC180_1 := am hl180_1; clear hi180_1 hl180_1; replace p180 := eq_true p180; replace q180 := eq_true q180; have ea_ := Option.some.inj (hx179_1.symm.trans hx180_1)
        injection ea_ with ea_ en_ ec_
        subst ea_; subst ec_; clear en_
        have p181 : 0 ≤ (x5_2 : Int) := of_decide_eq_true ad
        have q181 : x5_2 < (((rd_T94 l0 x4_1).f1).length : Int) := of_decide_eq_true ad
        obtain ⟨ad181, e181, hx181_0, hx181_1⟩ := at_T100 HR180_1.out x5_2 p181 q181
        cases e181
        replace hx181_0 := kp HB.out hx181_0; replace hx181_1 := kp HB.out hx181_1; replace p181 := eq_true p181; replace q181 := eq_true q181; obtain ⟨Ao16, co16, eo16⟩ := Kd.R_slice HO_3.out; subst eo16
        have p182 : 0 ≤ (((rd_T100 ((rd_T94 l0 x4_1).f1) x5_2).f1) : Int) := of_decide_eq_true ad
        have q182 : ((rd_T100 ((rd_T94 l0 x4_1).f1) x5_2).f1) < (x3_2.length : Int) := of_decide_eq_true ad
        obtain ⟨ad182, e182, hx182_0⟩ := Kd.at_int (Kd.R_reads' HO_3.out).2.2 ((rd_T100 ((rd_T94 l0 x4_1).f1) x5_2).f1) p182 q182
        cases e182
        replace p182 := eq_true p182; replace q182 := eq_true q182
        have p183 : 0 ≤ (x4_1 : Int) := of_decide_eq_true ad
        have q183 : x4_1 < (x3_2.length : Int) := of_decide_eq_true ad
        obtain ⟨ad183, e183, hx183_0⟩ := Kd.at_int (Kd.R_reads' HO_3.out).2.2 x4_1 p183 q183
        obtain rfl : ad182 = ad183 := (by injection e183)
        replace p183 := eq_true p183; replace q183 := eq_true q183
        have p15 : 0 ≤ (x4_1 : Int) := of_decide_eq_true ad
        have q15 : (x4_1 : Int) < ((x3_2.length : Int) : Int) := of_decide_eq_true ad
        obtain ⟨go15, co15, eo15, gb15, gl15, cl15, HG15⟩ := Kd.R_form HO_3.out (by omega)
        (first | cases eo15 | (injection eo15 with ea_ en_ ec_; (first | subst ea_ | (injection ea_ with ea_; subst ea_)); subst ec_; clear en_))
        have GB15 := Aside0.mk gb15; have GG15 := am HG15; clear gb15 gl15 HG15
        (first | simp only [add_plain] at hx182_0 | skip)
        (first | simp only [add_plain] at hx183_0 | skip)
        obtain ⟨hx15_0, hf15_0⟩ := Kd.R_celln 0 HO_3.out (x4_1 : Int) p15 q15; replace p15 := eq_true p15; replace q15 := eq_true q15; have HP17 := Kd.R_putg HO_3.out (x4_1 : Int) (wrap64 ((rd x3_2 ((rd_T100 ((rd_T94 l0 x4_1).f1) x5_2).f1)) + 1))
        go_wp2_with (first | ((with_reducible refine gate_store (t := 3) (p := 49) rfl ?_); refine store_event (t := 3) (p := 49) (v := ?vo_w18) (w1 := (wr.setCell ⟨go15, (x4_1 : Int).toNat, none⟩ (.int .i64 (wrap64 ((rd x3_2 ((rd_T100 ((rd_T94 l0 x4_1).f1) x5_2).f1)) + 1))))) ?hg ?ho ?hn ?hr ?_; (case ho => rfl); (case hg => rfl); (case hn => rfl); (case hr => first | (go_simp; done) | (go_simp; rfl)); intro w18 hw; have hg : wr.grownBy w18 (some go15) := (by rw [hw]; exact HP17.2); have hp_ : Kd.R (Kd.int .i64) 3 w18 w.heap.size (fun _ => True) (.slice (some ⟨go15, 0, none⟩) x3_2.length co16) y184 := (by rw [hw, Ny184.out]; exact HP17.1); clear HP17; replace HO_3 := am (hp_); replace HB := am ((by rw [hw]; exact below_set (HB.out) GB15.out : Below w.heap.size w w18)); clear hg hw hp_))
        go_roundg k2
        case measure => have := HK1.out; have := HK2.out; omega
        case rel => exact ⟨(y184), (wrap64 (x5_2 + 1)), sq, H', ⟨b25_⟩, ⟨rq HO_3.out⟩, ⟨bel⟩⟩
       rw [if_neg c14] at H; have c14b0 := decide_eq_false c14; clear c14
       have H' := am H
       clear H
       have p179 : 0 ≤ (x4_1 : Int) := of_decide_eq_true ad
       have q179 : x4_1 < (l0.length : Int) := of_decide_eq_true ad
       obtain ⟨ad179, A179_1, c179_1, e179, hx179_0, hx179_1, hl179_1, hi179_1⟩ := at_T94 HR0.out x4_1 p179 q179
       cases e179
       replace hx179_0 := kp HB.out hx179_0; replace hx179_1 := kp HB.out hx179_1; have HR179_1 := am hi179_1; have HC179_1 := am hl179_1; clear hi179_1 hl179_1; replace p179 := eq_true p179; replace q179 := eq_true q179
       have p180 : 0 ≤ (x4_1 : Int) := of_decide_eq_true ad
       have q180 : x4_1 < (l0.length : Int) := of_decide_eq_true ad
       obtain ⟨ad180, A180_1, c180_1, e180, hx180_0, hx180_1, hl180_1, hi180_1⟩ := at_T94 HR0.out x4_1 p180 q180
       obtain rfl : ad179 = ad180 := (by injection e180)
       replace hx180_0 := kp HB.out hx180_0; replace hx180_1 := kp HB.out hx180_1; have HR180_1 := am hi180_1; have HC180_1 := am hl180_1; clear hi180_1 hl180_1; replace p180 := eq_true p180; replace q180 := eq_true q180; have ea_ := Option.some.inj (hx179_1.symm.trans hx180_1)
       injection ea_ with ea_ en_ ec_
       subst ea_; subst ec_; clear en_
       have p181 : 0 ≤ (x5_2 : Int) := of_decide_eq_true ad
       have q181 : x5_2 < (((rd_T94 l0 x4_1).f1).length : Int) := of_decide_eq_true ad
       obtain ⟨ad181, e181, hx181_0, hx181_1⟩ := at_T100 HR180_1.out x5_2 p181 q181
       cases e181
       replace hx181_0 := kp HB.out hx181_0; replace hx181_1 := kp HB.out hx181_1; replace p181 := eq_true p181; replace q181 := eq_true q181; obtain ⟨Ao19, co19, eo19⟩ := Kd.R_slice HO_3.out; subst eo19
       have p182 : 0 ≤ (((rd_T100 ((rd_T94 l0 x4_1).f1) x5_2).f1) : Int) := of_decide_eq_true ad
       have q182 : ((rd_T100 ((rd_T94 l0 x4_1).f1) x5_2).f1) < (x3_2.length : Int) := of_decide_eq_true ad
       obtain ⟨ad182, e182, hx182_0⟩ := Kd.at_int (Kd.R_reads' HO_3.out).2.2 ((rd_T100 ((rd_T94 l0 x4_1).f1) x5_2).f1) p182 q182
       cases e182
       replace p182 := eq_true p182; replace q182 := eq_true q182
       have p183 : 0 ≤ (x4_1 : Int) := of_decide_eq_true ad
       have q183 : x4_1 < (x3_2.length : Int) := of_decide_eq_true ad
       obtain ⟨ad183, e183, hx183_0⟩ := Kd.at_int (Kd.R_reads' HO_3.out).2.2 x4_1 p183 q183
       obtain rfl : ad182 = ad183 := (by injection e183)
       replace p183 := eq_true p183; replace q183 := eq_true q183; go_wp2
       go_roundg k2
       case measure => have := HK1.out; have := HK2.out; omega
       case rel => exact ⟨(x3_2), (wrap64 (x5_2 + 1)), sq, H', ⟨b25_⟩, ⟨rq HO_3.out⟩, ⟨bel⟩⟩
      rw [if_neg c9] at H; have c9b0 := decide_eq_false c9; clear c9
      have H' := am H
      clear H
      have p179 : 0 ≤ (x4_1 : Int) := of_decide_eq_true ad
      have q179 : x4_1 < (l0.length : Int) := of_decide_eq_true ad
      obtain ⟨ad179, A179_1, c179_1, e179, hx179_0, hx179_1, hl179_1, hi179_1⟩ := at_T94 HR0.out x4_1 p179 q179
      cases e179
      replace hx179_0 := kp HB.out hx179_0; replace hx179_1 := kp HB.out hx179_1; have HR179_1 := am hi179_1; have HC179_1 := am hl179_1; clear hi179_1 hl179_1; replace p179 := eq_true p179; replace q179 := eq_true q179; go_wp2
      go_roundg k2
      case measure => have := HK1.out; have := HK2.out; omega
      case rel => exact ⟨(x3_2), (wrap64 (x4_1 - 1)), sq, H', ⟨b25_⟩, ⟨rq HO_3.out⟩, ⟨bel⟩⟩
   rw [if_neg c6] at H; have c6b0 := decide_eq_false c6; clear c6
   replace H := ip H; obtain ⟨c20, H⟩ := H; have c20b0 := decide_eq_true c20
   have c20b1 : decide (0 < x3_1.length) = true := decide_eq_true (by omega)
   clear c20; obtain rfl := Option.some.inj H; obtain ⟨Ao21, co21, eo21⟩ := Kd.R_slice HO_3.out; subst eo21
   have p178 : 0 ≤ (0 : Int) := (by omega)
   have q178 : 0 < (x3_1.length : Int) := of_decide_eq_true ad
   obtain ⟨ad178, e178, hx178_0⟩ := Kd.at_int (Kd.R_reads' HO_3.out).2.2 0 p178 q178
   cases e178
   have qi178 : (0 < x3_1.length) = True := eq_true (by omega)
   (try rw [show ((0 : Int)).toNat = 0 from rfl] at hx178_0)
   (try rw [Addr.add_zero'] at hx178_0)
   replace p178 := eq_true p178; replace q178 := eq_true q178; go_wp2; go_ret
   exact ⟨eq_, bel⟩
-- shrunk

/-! ### spec_MachineOk: function 34 -/
mutual
def spec_MachineOk.l0 : Nat → List (S94) → Int → Option (Bool)
 | 0, _, _ => none
 | k + 1, x0, x3 => if x3 < (x0.length : Int) then (spec_MachineOk.l1 k x0 x3 0) else ((spec_l1In.f (x0.length : Int) 1 400).bind fun t185 => (if t185 = true then ((spec_l3Deep.f k x0).bind fun t186 => (some (decide (t186 ≤ 12)))) else (some false)))
def spec_MachineOk.l1 : Nat → List (S94) → Int → Int → Option (Bool)
 | 0, _, _, _ => none
 | k + 1, x0, x3, x4 => if 0 ≤ x3 then (if x3 < (x0.length : Int) then (if x4 < (((rd_T94 x0 x3).f1).length : Int) then (if 0 ≤ x4 then ((spec_l1In.f ((rd_T100 ((rd_T94 x0 x3).f1) x4).f0) 97 122).bind fun t193 => (if t193 = true then ((spec_l1In.f ((rd_T100 ((rd_T94 x0 x3).f1) x4).f1) (wrap64 (x3 + 1)) (wrap64 ((x0.length : Int) - 1))).bind fun t194 => (if t194 = true then (if x4 > 0 then (if 0 ≤ (wrap64 (x4 - 1)) then (if (wrap64 (x4 - 1)) < (((rd_T94 x0 x3).f1).length : Int) then (if ((rd_T100 ((rd_T94 x0 x3).f1) (wrap64 (x4 - 1))).f0) ≥ ((rd_T100 ((rd_T94 x0 x3).f1) x4).f0) then (some false) else (spec_MachineOk.l1 k x0 x3 (wrap64 (x4 + 1)))) else (none)) else (none)) else (spec_MachineOk.l1 k x0 x3 (wrap64 (x4 + 1)))) else (some false))) else (some false))) else (none)) else (if x3 > 0 then (if ((rd_T94 x0 x3).f0 = true) then (spec_MachineOk.l0 k x0 (wrap64 (x3 + 1))) else (if (((rd_T94 x0 x3).f1).length : Int) = 0 then (some false) else (spec_MachineOk.l0 k x0 (wrap64 (x3 + 1))))) else (spec_MachineOk.l0 k x0 (wrap64 (x3 + 1))))) else (none)) else (none)
end
def spec_MachineOk.f (k : Nat) (l0 : List (S94)) : Option (Bool) := spec_MachineOk.l0 k l0 0
def spec_MachineOk.T8 : Bool × List (List Nat × List Nat) := (true, [([], []), ([0], [0]), ([1], [1]), ([2], [2]), ([3, 2], [3]), ([4], [4]), ([5, 4], [4, 5]), ([4], [4]), ([7, 4], [4, 7]), ([4], [4]), ([9, 4], [4, 9]), ([10, 4], [4, 10]), ([6, 8, 11, 4, 4], [4, 6, 8, 11]), ([12, 4], [4, 12]), ([4, 13], [4, 13]), ([14, 12], [14]), ([15], [15]), ([16, 15], [15, 16]), ([17, 15, 15], [15, 17]), ([18], [18]), ([18], [18]), ([19, 20, 18], [18, 19, 20]), ([21, 18], [18, 21]), ([22, 18], [18, 22]), ([18], [18]), ([24, 18], [18, 24]), ([23, 25, 18], [18, 23, 25]), ([26, 18], [18, 26]), ([27, 18], [18, 27]), ([18], [18]), ([29, 18], [18, 29]), ([28, 30, 18], [18, 28, 30]), ([18, 31, 15], [15, 18, 31]), ([15, 32], [15, 32])])
def spec_MachineOk.B8 : List Nat := [0, 1, 3, 7, 15, 31, 63, 31, 159, 31, 543, 1567, 4095, 8191, 16383, 32767, 65535, 131071, 262143, 524287, 524287, 2097151, 4194303, 8388607, 524287, 17301503, 67108863, 134217727, 268435455, 524287, 537395199, 2147483647, 4294967295, 8589934591]
theorem spec_MachineOk.tab8 : rtab .any (opsOf Try.f34 8) = spec_MachineOk.T8 := by kernel_rfl
theorem spec_MachineOk.bits8 : waitsOk spec_MachineOk.T8.2 spec_MachineOk.B8 = true := by kernel_rfl
theorem spec_MachineOk.calls (k : Nat) (A0 : Option Addr) (c0 : Nat) (l0 : List (S94)) (r : Bool) (w : World) (hr0 : Kd.C k94 w A0 l0.length l0) (hc0 : l0.length ≤ c0) (h : spec_MachineOk.f k l0 = some r) :
  Calls Try.prog 34 #[.slice A0 l0.length c0] w fun e w' => e = .returned (.bool r) ∧ Below w.heap.size w w' := by
 have hu100 := Try.underlying100; have HR0 := am hr0; have HC0 := am hc0; clear hr0 hc0; have HB := am (Below.refl w.heap.size w)
 have H : (spec_MachineOk.l0 k l0 0) = some r := h
 clear h
 have H' := am H
 clear H; go_enter Try.func34, Try.ntmps34; go_wp2
 go_loopg [3] k (fun kq v3 w' => ∃ (x3_1 : Int), v3 = .int .i64 x3_1 ∧ Aside0 (spec_MachineOk.l0 kq l0 x3_1 = some r) ∧ Aside0 (kq ≤ k) ∧ Aside0 (Below w.heap.size w w'))
 case atStart => exact ⟨(0), sq, H', ⟨Nat.le_refl _⟩, ⟨bel⟩⟩
 case round =>
  clear H'; obtain ⟨x3_1, rfl, HA, HK1, HB⟩ := hrel
  cases gk with
  | zero => exact absurd HA.out (by simp [spec_MachineOk.l0])
  | succ k1 =>
   have H := HA.out; clear HA
   simp only [spec_MachineOk.l0] at H
   by_cases c2 : x3_1 < (l0.length : Int)
   ·rw [if_pos c2] at H; have c2b0 := decide_eq_true c2; clear c2
    have H' := am H
    clear H; go_wp2
    go_loopg [4] k1 (fun kq v4 w' => ∃ (x4_2 : Int), v4 = .int .i64 x4_2 ∧ Aside0 (spec_MachineOk.l1 kq l0 x3_1 x4_2 = some r) ∧ Aside0 (kq ≤ k1) ∧ Aside0 (Below w.heap.size w w'))
    case atStart => exact ⟨(0), sq, H', ⟨Nat.le_refl _⟩, ⟨bel⟩⟩
    case round =>
     clear H'; (try clear c2); (try clear c2b0); (try clear p2); obtain ⟨x4_2, rfl, HA, HK2, HB⟩ := hrel
     cases gk with
     | zero => exact absurd HA.out (by simp [spec_MachineOk.l1])
     | succ k2 =>
      have H := HA.out; clear HA
      simp only [spec_MachineOk.l1] at H
      replace H := it H; obtain ⟨c3b0, H⟩ := H
      replace H := it H; obtain ⟨c4b0, H⟩ := H
      by_cases c5 : x4_2 < (((rd_T94 l0 x3_1).f1).length : Int)
      ·rw [if_pos c5] at H; have c5b0 := decide_eq_true c5; clear c5
       replace H := it H; obtain ⟨c6b0, H⟩ := H; replace H := bs H; obtain ⟨t193, A70, H⟩ := H; replace H : (if t193 = true then ((spec_l1In.f ((rd_T100 ((rd_T94 l0 x3_1).f1) x4_2).f1) (wrap64 (x3_1 + 1)) (wrap64 ((l0.length : Int) - 1))).bind fun t194 => (if t194 = true then (if x4_2 > 0 then (if 0 ≤ (wrap64 (x4_2 - 1)) then (if (wrap64 (x4_2 - 1)) < (((rd_T94 l0 x3_1).f1).length : Int) then (if ((rd_T100 ((rd_T94 l0 x3_1).f1) (wrap64 (x4_2 - 1))).f0) ≥ ((rd_T100 ((rd_T94 l0 x3_1).f1) x4_2).f0) then (some false) else (spec_MachineOk.l1 k2 l0 x3_1 (wrap64 (x4_2 + 1)))) else (none)) else (none)) else (spec_MachineOk.l1 k2 l0 x3_1 (wrap64 (x4_2 + 1)))) else (some false))) else (some false)) = some r := H; have A7 := Aside0.mk A70; clear A70
       by_cases c8 : t193 = true
       ·subst c8
        have H1 : ((spec_l1In.f ((rd_T100 ((rd_T94 l0 x3_1).f1) x4_2).f1) (wrap64 (x3_1 + 1)) (wrap64 ((l0.length : Int) - 1))).bind fun t194 => (if t194 = true then (if x4_2 > 0 then (if 0 ≤ (wrap64 (x4_2 - 1)) then (if (wrap64 (x4_2 - 1)) < (((rd_T94 l0 x3_1).f1).length : Int) then (if ((rd_T100 ((rd_T94 l0 x3_1).f1) (wrap64 (x4_2 - 1))).f0) ≥ ((rd_T100 ((rd_T94 l0 x3_1).f1) x4_2).f0) then (some false) else (spec_MachineOk.l1 k2 l0 x3_1 (wrap64 (x4_2 + 1)))) else (none)) else (none)) else (spec_MachineOk.l1 k2 l0 x3_1 (wrap64 (x4_2 + 1)))) else (some false))) = some r := b21_
        replace H := H1; clear H1
        replace H := bs H; obtain ⟨t194, A90, H⟩ := H; replace H : (if t194 = true then (if x4_2 > 0 then (if 0 ≤ (wrap64 (x4_2 - 1)) then (if (wrap64 (x4_2 - 1)) < (((rd_T94 l0 x3_1).f1).length : Int) then (if ((rd_T100 ((rd_T94 l0 x3_1).f1) (wrap64 (x4_2 - 1))).f0) ≥ ((rd_T100 ((rd_T94 l0 x3_1).f1) x4_2).f0) then (some false) else (spec_MachineOk.l1 k2 l0 x3_1 (wrap64 (x4_2 + 1)))) else (none)) else (none)) else (spec_MachineOk.l1 k2 l0 x3_1 (wrap64 (x4_2 + 1)))) else (some false)) = some r := H; have A9 := Aside0.mk A90; clear A90
        by_cases c10 : t194 = true
        ·subst c10
         have H1 : (if x4_2 > 0 then (if 0 ≤ (wrap64 (x4_2 - 1)) then (if (wrap64 (x4_2 - 1)) < (((rd_T94 l0 x3_1).f1).length : Int) then (if ((rd_T100 ((rd_T94 l0 x3_1).f1) (wrap64 (x4_2 - 1))).f0) ≥ ((rd_T100 ((rd_T94 l0 x3_1).f1) x4_2).f0) then (some false) else (spec_MachineOk.l1 k2 l0 x3_1 (wrap64 (x4_2 + 1)))) else (none)) else (none)) else (spec_MachineOk.l1 k2 l0 x3_1 (wrap64 (x4_2 + 1)))) = some r := b21_
         replace H := H1; clear H1
         by_cases c11 : x4_2 > 0
         ·rw [if_pos c11] at H; have c11b0 := decide_eq_true c11; clear c11; obtain ⟨ji12, hji12⟩ : ∃ j_ : Int, (wrap64 (x4_2 - 1)) = j_ := ⟨_, rfl⟩
          replace H : (if 0 ≤ (ji12) then (if (ji12) < (((rd_T94 l0 x3_1).f1).length : Int) then (if ((rd_T100 ((rd_T94 l0 x3_1).f1) (ji12)).f0) ≥ ((rd_T100 ((rd_T94 l0 x3_1).f1) x4_2).f0) then (some false) else (spec_MachineOk.l1 k2 l0 x3_1 (wrap64 (x4_2 + 1)))) else (none)) else (none)) = some r := by first | (rw [hji12] at H; exact H) | (simp only [hji12] at H ⊢; exact H)
          (try rw [hji12] at A7)
          (try rw [hji12] at A9)
          have hji12w : (IntKind.i64.wrap (x4_2 - 1)) = ji12 := (i64_w _).trans hji12
          replace H := it H; obtain ⟨c13b0, H⟩ := H
          replace H := it H; obtain ⟨c14b0, H⟩ := H
          by_cases c15 : ((rd_T100 ((rd_T94 l0 x3_1).f1) (ji12)).f0) ≥ ((rd_T100 ((rd_T94 l0 x3_1).f1) x4_2).f0)
          ·rw [if_pos c15] at H; have c15b0 := decide_eq_true c15; clear c15; obtain rfl := Option.some.inj H
           have p187 : 0 ≤ (x3_1 : Int) := of_decide_eq_true ad
           have q187 : x3_1 < (l0.length : Int) := of_decide_eq_true ad
           obtain ⟨ad187, A187_1, c187_1, e187, hx187_0, hx187_1, hl187_1, hi187_1⟩ := at_T94 HR0.out x3_1 p187 q187
           cases e187
           replace hx187_0 := kp HB.out hx187_0; replace hx187_1 := kp HB.out hx187_1; have HR187_1 := am hi187_1; have HC187_1 := am hl187_1; clear hi187_1 hl187_1; replace p187 := eq_true p187; replace q187 := eq_true q187
           have p190 : 0 ≤ (x3_1 : Int) := of_decide_eq_true ad
           have q190 : x3_1 < (l0.length : Int) := of_decide_eq_true ad
           obtain ⟨ad190, A190_1, c190_1, e190, hx190_0, hx190_1, hl190_1, hi190_1⟩ := at_T94 HR0.out x3_1 p190 q190
           obtain rfl : ad187 = ad190 := (by injection e190)
           replace hx190_0 := kp HB.out hx190_0; replace hx190_1 := kp HB.out hx190_1; have HR190_1 := am hi190_1; have HC190_1 := am hl190_1; clear hi190_1 hl190_1; replace p190 := eq_true p190; replace q190 := eq_true q190; have ea_ := Option.some.inj (hx187_1.symm.trans hx190_1)
           injection ea_ with ea_ en_ ec_
           subst ea_; subst ec_; clear en_
           have p191 : 0 ≤ (x4_2 : Int) := of_decide_eq_true ad
           have q191 : x4_2 < (((rd_T94 l0 x3_1).f1).length : Int) := of_decide_eq_true ad
           obtain ⟨ad191, e191, hx191_0, hx191_1⟩ := at_T100 HR190_1.out x4_2 p191 q191
           cases e191
           replace hx191_0 := kp HB.out hx191_0; replace hx191_1 := kp HB.out hx191_1; replace p191 := eq_true p191; replace q191 := eq_true q191
           try go_wp2_with (first | ((with_reducible refine gate_dst (N := 5) rfl ?_); (try (refine gate_guard (by rfl) ?_; dsimp only)); refine bx 5 (cs := #[.int .i64 0, .int .i64 0]) (t := 100) ?_; intro gb192 hg w16 hbox hb; have BK192 := am (hbox); have GW192 := am ((b7_ : w.heap.size ≤ gb192)); have GE192 := am ((b7_ : w.heap.size ≤ gb192)); replace HB := am (below_step bel hb); clear hb hbox hg; have hcz17_0 := bc BK192.out 0; have hcz17_1 := bc BK192.out 1; have hfz17_0 := bf BK192.out 0; have hfz17_1 := bf BK192.out 1))
           have n0_ : Aside0 (((w16.setCell ⟨gb192, 0, none⟩ (.int .i64 ((rd_T100 ((rd_T94 l0 x3_1).f1) x4_2).f0))).setCell ⟨gb192, 1, none⟩ (.int .i64 ((rd_T100 ((rd_T94 l0 x3_1).f1) x4_2).f1))).heap[gb192]? = some (.cells #[.int .i64 ((rd_T100 ((rd_T94 l0 x3_1).f1) x4_2).f0), .int .i64 ((rd_T100 ((rd_T94 l0 x3_1).f1) x4_2).f1)] 100 (0, 0))) := ⟨b10_⟩
           have n1_ : Aside0 (Below w.heap.size w ((w16.setCell ⟨gb192, 0, none⟩ (.int .i64 ((rd_T100 ((rd_T94 l0 x3_1).f1) x4_2).f0))).setCell ⟨gb192, 1, none⟩ (.int .i64 ((rd_T100 ((rd_T94 l0 x3_1).f1) x4_2).f1)))) := ⟨bel1 GE192.out⟩
           (try clear BK192)
           (try clear HB)
           generalize ((w16.setCell ⟨gb192, 0, none⟩ (.int .i64 ((rd_T100 ((rd_T94 l0 x3_1).f1) x4_2).f0))).setCell ⟨gb192, 1, none⟩ (.int .i64 ((rd_T100 ((rd_T94 l0 x3_1).f1) x4_2).f1))) = w18 at n0_ n1_ ⊢
           have BK192 := n0_; have HB := n1_; clear n0_ n1_; replace BK192 := am (blk_drew BK192.out); replace HB := am (below_drew1 HB.out)
           have p195 : 0 ≤ (x3_1 : Int) := of_decide_eq_true ad
           have q195 : x3_1 < (l0.length : Int) := of_decide_eq_true ad
           obtain ⟨ad195, A195_1, c195_1, e195, hx195_0, hx195_1, hl195_1, hi195_1⟩ := at_T94 HR0.out x3_1 p195 q195; have hw195_1 := hx195_1; have hw195_0 := hx195_0
           obtain rfl : ad187 = ad195 := (by injection e195)
           replace hx195_0 := kp HB.out hx195_0; replace hx195_1 := kp HB.out hx195_1; have HR195_1 := am hi195_1; have HC195_1 := am hl195_1; clear hi195_1 hl195_1; replace p195 := eq_true p195; replace q195 := eq_true q195
           have p196 : 0 ≤ ((ji12) : Int) := of_decide_eq_true ad
           have q196 : (ji12) < (((rd_T94 l0 x3_1).f1).length : Int) := of_decide_eq_true ad
           obtain ⟨ad196, e196, hx196_0, hx196_1⟩ := at_T100 HR195_1.out (ji12) p196 q196; have hw196_1 := hx196_1; have hw196_0 := hx196_0
           cases e196
           replace hx196_0 := kp HB.out hx196_0; replace hx196_1 := kp HB.out hx196_1; replace p196 := eq_true p196; replace q196 := eq_true q196
           refine st (n := 34) (S := fun w' => w'.cell? ⟨gb192, 0, none⟩ = some (.int .i64 ((rd_T100 ((rd_T94 l0 x3_1).f1) x4_2).f0)) ∧ w'.cell? ⟨gb192, 1, none⟩ = some (.int .i64 ((rd_T100 ((rd_T94 l0 x3_1).f1) x4_2).f1)) ∧ w'.cell? (ad187.add ((x3_1).toNat * 2)) = some (.bool ((rd_T94 l0 x3_1).f0)) ∧ w'.cell? ⟨(ad187.add ((x3_1).toNat * 2)).block, (ad187.add ((x3_1).toNat * 2)).off + 1, none⟩ = some (.slice (some ad196) ((rd_T94 l0 x3_1).f1).length c195_1) ∧ w'.cell? (ad196.add (((ji12)).toNat * 2)) = some (.int .i64 ((rd_T100 ((rd_T94 l0 x3_1).f1) (ji12)).f0)) ∧ w'.cell? ⟨(ad196.add (((ji12)).toNat * 2)).block, (ad196.add (((ji12)).toNat * 2)).off + 1, none⟩ = some (.int .i64 ((rd_T100 ((rd_T94 l0 x3_1).f1) (ji12)).f1))) (ds := []) ⟨(blk_cell BK192.out 0).trans rfl, (blk_cell BK192.out 1).trans rfl, (kp HB.out hw195_0), (kp HB.out hw195_1), (kp HB.out hw196_0), (kp HB.out hw196_1)⟩ (fun hHeld => ?_); refine with_tabW spec_MachineOk.tab8 spec_MachineOk.bits8 (fun HT_ HW_ => ?_)
           generalize w18.drew = w19 at BK192 HB HR195_1 hx195_0 hx195_1 hx196_0 hx196_1 hHeld ⊢
           refine pu 0 30 ?_
           refine tk6 1 31 hHeld ?_
           refine on1 2 32 (fun K hK => ?_)
           refine goes_ Try.func78 (by kernel_rfl) rfl #[.int .i64 ((rd_T100 ((rd_T94 l0 x3_1).f1) x4_2).f0), .int .i64 97, .int .i64 122] (by rfl) rfl rfl mq ?_
           with_reducible refine (spec_l1In.calls ((rd_T100 ((rd_T94 l0 x3_1).f1) x4_2).f0) 97 122 true _ A7.out).mono ?_
           rintro e w' ⟨rfl, ⟨nd, rfl⟩⟩
           refine ⟨_, rfl, ?_⟩
           refine hK.out _ _ ⟨(blk_cell BK192.out 0).trans rfl, (blk_cell BK192.out 1).trans rfl, (kp HB.out hw195_0), (kp HB.out hw195_1), (kp HB.out hw196_0), (kp HB.out hw196_1)⟩ (fun hHeld => ?_)
           clear hK K
           refine norm_ (a' := ?_) ?_ ?_
           rotate_left
           ·show Act.put _ (some 32) _ = _
            simp only [Act.put, List.setIfInBounds_toArray, List.set_cons_zero, List.set_cons_succ, i64_w, i32_w]
            rfl
           refine pu 3 33 ?_
           refine pu 4 34 ?_
           refine pu 5 35 ?_
           refine pu 7 37 ?_
           refine pu 8 38 ?_
           refine pu 9 39 ?_
           refine pu 10 40 ?_
           refine pu 11 41 ?_
           refine tk6 6 36 hHeld ?_
           refine on1 12 42 (fun K hK => ?_)
           refine goes_ Try.func78 (by kernel_rfl) rfl #[.int .i64 ((rd_T100 ((rd_T94 l0 x3_1).f1) x4_2).f1), .int .i64 (wrap64 (x3_1 + 1)), .int .i64 (wrap64 ((l0.length : Int) - 1))] (by rfl) rfl rfl mq ?_
           with_reducible refine (spec_l1In.calls ((rd_T100 ((rd_T94 l0 x3_1).f1) x4_2).f1) (wrap64 (x3_1 + 1)) (wrap64 ((l0.length : Int) - 1)) true _ A9.out).mono ?_
           rintro e w' ⟨rfl, ⟨nd, rfl⟩⟩
           refine ⟨_, rfl, ?_⟩
           refine hK.out _ _ ⟨(blk_cell BK192.out 0).trans rfl, (blk_cell BK192.out 1).trans rfl, (kp HB.out hw195_0), (kp HB.out hw195_1), (kp HB.out hw196_0), (kp HB.out hw196_1)⟩ (fun hHeld => ?_)
           clear hK K
           refine norm_ (a' := ?_) ?_ ?_
           rotate_left
           ·show Act.put _ (some 42) _ = _
            simp only [Act.put, List.setIfInBounds_toArray, List.set_cons_zero, List.set_cons_succ, i64_w, i32_w]
            rfl
           refine pu 13 43 ?_
           refine pu 14 44 ?_
           refine pu 15 45 ?_
           refine pu 16 46 ?_
           refine pu 17 47 ?_
           refine pu 18 48 ?_
           refine pu 19 49 ?_
           refine pu 20 50 ?_
           refine pu 21 51 ?_
           refine pu 22 52 ?_
           refine pu 24 54 ?_
           refine pu 25 55 ?_
           refine pu 29 59 ?_
           refine tk6 23 53 hHeld ?_
           refine pu 26 56 ?_
           refine pu 27 57 ?_
           refine tk6 28 58 hHeld ?_
           refine tk6 30 60 hHeld ?_
           refine pu 31 61 ?_
           refine pu 32 62 ?_
           refine pu 33 63 ?_
           refine done_ (done_of HT_.out (by kernel_rfl)) ?_
           try go_wp2
           go_ret
           exact ⟨by first | rfl | (simp [errW_none, errW_some] <;> rfl) | (simp only [← hji12]; first | rfl | (simp [errW_none, errW_some] <;> rfl)) | (simp [*, errW_none, errW_some] <;> rfl), bel1 GE192.out⟩
          rw [if_neg c15] at H; have c15b0 := decide_eq_false c15; clear c15
          have H' := am H
          clear H
          have p187 : 0 ≤ (x3_1 : Int) := of_decide_eq_true ad
          have q187 : x3_1 < (l0.length : Int) := of_decide_eq_true ad
          obtain ⟨ad187, A187_1, c187_1, e187, hx187_0, hx187_1, hl187_1, hi187_1⟩ := at_T94 HR0.out x3_1 p187 q187
          cases e187
          replace hx187_0 := kp HB.out hx187_0; replace hx187_1 := kp HB.out hx187_1; have HR187_1 := am hi187_1; have HC187_1 := am hl187_1; clear hi187_1 hl187_1; replace p187 := eq_true p187; replace q187 := eq_true q187
          have p190 : 0 ≤ (x3_1 : Int) := of_decide_eq_true ad
          have q190 : x3_1 < (l0.length : Int) := of_decide_eq_true ad
          obtain ⟨ad190, A190_1, c190_1, e190, hx190_0, hx190_1, hl190_1, hi190_1⟩ := at_T94 HR0.out x3_1 p190 q190
          obtain rfl : ad187 = ad190 := (by injection e190)
          replace hx190_0 := kp HB.out hx190_0; replace hx190_1 := kp HB.out hx190_1; have HR190_1 := am hi190_1; have HC190_1 := am hl190_1; clear hi190_1 hl190_1; replace p190 := eq_true p190; replace q190 := eq_true q190; have ea_ := Option.some.inj (hx187_1.symm.trans hx190_1)
          injection ea_ with ea_ en_ ec_
          subst ea_; subst ec_; clear en_
          have p191 : 0 ≤ (x4_2 : Int) := of_decide_eq_true ad
          have q191 : x4_2 < (((rd_T94 l0 x3_1).f1).length : Int) := of_decide_eq_true ad
          obtain ⟨ad191, e191, hx191_0, hx191_1⟩ := at_T100 HR190_1.out x4_2 p191 q191
          cases e191
          replace hx191_0 := kp HB.out hx191_0; replace hx191_1 := kp HB.out hx191_1; replace p191 := eq_true p191; replace q191 := eq_true q191
          try go_wp2_with (first | ((with_reducible refine gate_dst (N := 5) rfl ?_); (try (refine gate_guard (by rfl) ?_; dsimp only)); refine bx 5 (cs := #[.int .i64 0, .int .i64 0]) (t := 100) ?_; intro gb192 hg w20 hbox hb; have BK192 := am (hbox); have GW192 := am ((b7_ : w.heap.size ≤ gb192)); have GE192 := am ((b7_ : w.heap.size ≤ gb192)); replace HB := am (below_step bel hb); clear hb hbox hg; have hcz21_0 := bc BK192.out 0; have hcz21_1 := bc BK192.out 1; have hfz21_0 := bf BK192.out 0; have hfz21_1 := bf BK192.out 1))
          have n0_ : Aside0 (((w20.setCell ⟨gb192, 0, none⟩ (.int .i64 ((rd_T100 ((rd_T94 l0 x3_1).f1) x4_2).f0))).setCell ⟨gb192, 1, none⟩ (.int .i64 ((rd_T100 ((rd_T94 l0 x3_1).f1) x4_2).f1))).heap[gb192]? = some (.cells #[.int .i64 ((rd_T100 ((rd_T94 l0 x3_1).f1) x4_2).f0), .int .i64 ((rd_T100 ((rd_T94 l0 x3_1).f1) x4_2).f1)] 100 (0, 0))) := ⟨b10_⟩
          have n1_ : Aside0 (Below w.heap.size w ((w20.setCell ⟨gb192, 0, none⟩ (.int .i64 ((rd_T100 ((rd_T94 l0 x3_1).f1) x4_2).f0))).setCell ⟨gb192, 1, none⟩ (.int .i64 ((rd_T100 ((rd_T94 l0 x3_1).f1) x4_2).f1)))) := ⟨bel1 GE192.out⟩
          (try clear BK192)
          (try clear HB)
          generalize ((w20.setCell ⟨gb192, 0, none⟩ (.int .i64 ((rd_T100 ((rd_T94 l0 x3_1).f1) x4_2).f0))).setCell ⟨gb192, 1, none⟩ (.int .i64 ((rd_T100 ((rd_T94 l0 x3_1).f1) x4_2).f1))) = w22 at n0_ n1_ ⊢
          have BK192 := n0_; have HB := n1_; clear n0_ n1_; replace BK192 := am (blk_drew BK192.out); replace HB := am (below_drew1 HB.out)
          have p195 : 0 ≤ (x3_1 : Int) := of_decide_eq_true ad
          have q195 : x3_1 < (l0.length : Int) := of_decide_eq_true ad
          obtain ⟨ad195, A195_1, c195_1, e195, hx195_0, hx195_1, hl195_1, hi195_1⟩ := at_T94 HR0.out x3_1 p195 q195; have hw195_1 := hx195_1; have hw195_0 := hx195_0
          obtain rfl : ad187 = ad195 := (by injection e195)
          replace hx195_0 := kp HB.out hx195_0; replace hx195_1 := kp HB.out hx195_1; have HR195_1 := am hi195_1; have HC195_1 := am hl195_1; clear hi195_1 hl195_1; replace p195 := eq_true p195; replace q195 := eq_true q195
          have p196 : 0 ≤ ((ji12) : Int) := of_decide_eq_true ad
          have q196 : (ji12) < (((rd_T94 l0 x3_1).f1).length : Int) := of_decide_eq_true ad
          obtain ⟨ad196, e196, hx196_0, hx196_1⟩ := at_T100 HR195_1.out (ji12) p196 q196; have hw196_1 := hx196_1; have hw196_0 := hx196_0
          cases e196
          replace hx196_0 := kp HB.out hx196_0; replace hx196_1 := kp HB.out hx196_1; replace p196 := eq_true p196; replace q196 := eq_true q196
          refine st (n := 34) (S := fun w' => w'.cell? ⟨gb192, 0, none⟩ = some (.int .i64 ((rd_T100 ((rd_T94 l0 x3_1).f1) x4_2).f0)) ∧ w'.cell? ⟨gb192, 1, none⟩ = some (.int .i64 ((rd_T100 ((rd_T94 l0 x3_1).f1) x4_2).f1)) ∧ w'.cell? (ad187.add ((x3_1).toNat * 2)) = some (.bool ((rd_T94 l0 x3_1).f0)) ∧ w'.cell? ⟨(ad187.add ((x3_1).toNat * 2)).block, (ad187.add ((x3_1).toNat * 2)).off + 1, none⟩ = some (.slice (some ad196) ((rd_T94 l0 x3_1).f1).length c195_1) ∧ w'.cell? (ad196.add (((ji12)).toNat * 2)) = some (.int .i64 ((rd_T100 ((rd_T94 l0 x3_1).f1) (ji12)).f0)) ∧ w'.cell? ⟨(ad196.add (((ji12)).toNat * 2)).block, (ad196.add (((ji12)).toNat * 2)).off + 1, none⟩ = some (.int .i64 ((rd_T100 ((rd_T94 l0 x3_1).f1) (ji12)).f1))) (ds := []) ⟨(blk_cell BK192.out 0).trans rfl, (blk_cell BK192.out 1).trans rfl, (kp HB.out hw195_0), (kp HB.out hw195_1), (kp HB.out hw196_0), (kp HB.out hw196_1)⟩ (fun hHeld => ?_); refine with_tabW spec_MachineOk.tab8 spec_MachineOk.bits8 (fun HT_ HW_ => ?_)
          generalize w22.drew = w23 at BK192 HB HR195_1 hx195_0 hx195_1 hx196_0 hx196_1 hHeld ⊢
          refine pu 0 30 ?_
          refine tk6 1 31 hHeld ?_
          refine on1 2 32 (fun K hK => ?_)
          refine goes_ Try.func78 (by kernel_rfl) rfl #[.int .i64 ((rd_T100 ((rd_T94 l0 x3_1).f1) x4_2).f0), .int .i64 97, .int .i64 122] (by rfl) rfl rfl mq ?_
          with_reducible refine (spec_l1In.calls ((rd_T100 ((rd_T94 l0 x3_1).f1) x4_2).f0) 97 122 true _ A7.out).mono ?_
          rintro e w' ⟨rfl, ⟨nd, rfl⟩⟩
          refine ⟨_, rfl, ?_⟩
          refine hK.out _ _ ⟨(blk_cell BK192.out 0).trans rfl, (blk_cell BK192.out 1).trans rfl, (kp HB.out hw195_0), (kp HB.out hw195_1), (kp HB.out hw196_0), (kp HB.out hw196_1)⟩ (fun hHeld => ?_)
          clear hK K
          refine norm_ (a' := ?_) ?_ ?_
          rotate_left
          ·show Act.put _ (some 32) _ = _
           simp only [Act.put, List.setIfInBounds_toArray, List.set_cons_zero, List.set_cons_succ, i64_w, i32_w]
           rfl
          refine pu 3 33 ?_
          refine pu 4 34 ?_
          refine pu 5 35 ?_
          refine pu 7 37 ?_
          refine pu 8 38 ?_
          refine pu 9 39 ?_
          refine pu 10 40 ?_
          refine pu 11 41 ?_
          refine tk6 6 36 hHeld ?_
          refine on1 12 42 (fun K hK => ?_)
          refine goes_ Try.func78 (by kernel_rfl) rfl #[.int .i64 ((rd_T100 ((rd_T94 l0 x3_1).f1) x4_2).f1), .int .i64 (wrap64 (x3_1 + 1)), .int .i64 (wrap64 ((l0.length : Int) - 1))] (by rfl) rfl rfl mq ?_
          with_reducible refine (spec_l1In.calls ((rd_T100 ((rd_T94 l0 x3_1).f1) x4_2).f1) (wrap64 (x3_1 + 1)) (wrap64 ((l0.length : Int) - 1)) true _ A9.out).mono ?_
          rintro e w' ⟨rfl, ⟨nd, rfl⟩⟩
          refine ⟨_, rfl, ?_⟩
          refine hK.out _ _ ⟨(blk_cell BK192.out 0).trans rfl, (blk_cell BK192.out 1).trans rfl, (kp HB.out hw195_0), (kp HB.out hw195_1), (kp HB.out hw196_0), (kp HB.out hw196_1)⟩ (fun hHeld => ?_)
          clear hK K
          refine norm_ (a' := ?_) ?_ ?_
          rotate_left
          ·show Act.put _ (some 42) _ = _
           simp only [Act.put, List.setIfInBounds_toArray, List.set_cons_zero, List.set_cons_succ, i64_w, i32_w]
           rfl
          refine pu 13 43 ?_
          refine pu 14 44 ?_
          refine pu 15 45 ?_
          refine pu 16 46 ?_
          refine pu 17 47 ?_
          refine pu 18 48 ?_
          refine pu 19 49 ?_
          refine pu 20 50 ?_
          refine pu 21 51 ?_
          refine pu 22 52 ?_
          refine pu 24 54 ?_
          refine pu 25 55 ?_
          refine pu 29 59 ?_
          refine tk6 23 53 hHeld ?_
          refine pu 26 56 ?_
          refine pu 27 57 ?_
          refine tk6 28 58 hHeld ?_
          refine tk6 30 60 hHeld ?_
          refine pu 31 61 ?_
          refine pu 32 62 ?_
          refine pu 33 63 ?_
          refine done_ (done_of HT_.out (by kernel_rfl)) ?_
          try go_wp2
          go_roundg k2
          case measure => have := HK1.out; have := HK2.out; omega
          case rel => exact ⟨(wrap64 (x4_2 + 1)), sq, H', ⟨b25_⟩, ⟨bel1 GE192.out⟩⟩
         rw [if_neg c11] at H; have c11b0 := decide_eq_false c11; clear c11
         have H' := am H
         clear H
         have p187 : 0 ≤ (x3_1 : Int) := of_decide_eq_true ad
         have q187 : x3_1 < (l0.length : Int) := of_decide_eq_true ad
         obtain ⟨ad187, A187_1, c187_1, e187, hx187_0, hx187_1, hl187_1, hi187_1⟩ := at_T94 HR0.out x3_1 p187 q187
         cases e187
         replace hx187_0 := kp HB.out hx187_0; replace hx187_1 := kp HB.out hx187_1; have HR187_1 := am hi187_1; have HC187_1 := am hl187_1; clear hi187_1 hl187_1; replace p187 := eq_true p187; replace q187 := eq_true q187
         have p190 : 0 ≤ (x3_1 : Int) := of_decide_eq_true ad
         have q190 : x3_1 < (l0.length : Int) := of_decide_eq_true ad
         obtain ⟨ad190, A190_1, c190_1, e190, hx190_0, hx190_1, hl190_1, hi190_1⟩ := at_T94 HR0.out x3_1 p190 q190
         obtain rfl : ad187 = ad190 := (by injection e190)
         replace hx190_0 := kp HB.out hx190_0; replace hx190_1 := kp HB.out hx190_1; have HR190_1 := am hi190_1; have HC190_1 := am hl190_1; clear hi190_1 hl190_1; replace p190 := eq_true p190; replace q190 := eq_true q190; have ea_ := Option.some.inj (hx187_1.symm.trans hx190_1)
         injection ea_ with ea_ en_ ec_
         subst ea_; subst ec_; clear en_
         have p191 : 0 ≤ (x4_2 : Int) := of_decide_eq_true ad
         have q191 : x4_2 < (((rd_T94 l0 x3_1).f1).length : Int) := of_decide_eq_true ad
         obtain ⟨ad191, e191, hx191_0, hx191_1⟩ := at_T100 HR190_1.out x4_2 p191 q191
         cases e191
         replace hx191_0 := kp HB.out hx191_0; replace hx191_1 := kp HB.out hx191_1; replace p191 := eq_true p191; replace q191 := eq_true q191
         try go_wp2_with (first | ((with_reducible refine gate_dst (N := 5) rfl ?_); (try (refine gate_guard (by rfl) ?_; dsimp only)); refine bx 5 (cs := #[.int .i64 0, .int .i64 0]) (t := 100) ?_; intro gb192 hg w24 hbox hb; have BK192 := am (hbox); have GW192 := am ((b7_ : w.heap.size ≤ gb192)); have GE192 := am ((b7_ : w.heap.size ≤ gb192)); replace HB := am (below_step bel hb); clear hb hbox hg; have hcz25_0 := bc BK192.out 0; have hcz25_1 := bc BK192.out 1; have hfz25_0 := bf BK192.out 0; have hfz25_1 := bf BK192.out 1))
         have n0_ : Aside0 (((w24.setCell ⟨gb192, 0, none⟩ (.int .i64 ((rd_T100 ((rd_T94 l0 x3_1).f1) x4_2).f0))).setCell ⟨gb192, 1, none⟩ (.int .i64 ((rd_T100 ((rd_T94 l0 x3_1).f1) x4_2).f1))).heap[gb192]? = some (.cells #[.int .i64 ((rd_T100 ((rd_T94 l0 x3_1).f1) x4_2).f0), .int .i64 ((rd_T100 ((rd_T94 l0 x3_1).f1) x4_2).f1)] 100 (0, 0))) := ⟨b10_⟩
         have n1_ : Aside0 (Below w.heap.size w ((w24.setCell ⟨gb192, 0, none⟩ (.int .i64 ((rd_T100 ((rd_T94 l0 x3_1).f1) x4_2).f0))).setCell ⟨gb192, 1, none⟩ (.int .i64 ((rd_T100 ((rd_T94 l0 x3_1).f1) x4_2).f1)))) := ⟨bel1 GE192.out⟩
         (try clear BK192)
         (try clear HB)
         generalize ((w24.setCell ⟨gb192, 0, none⟩ (.int .i64 ((rd_T100 ((rd_T94 l0 x3_1).f1) x4_2).f0))).setCell ⟨gb192, 1, none⟩ (.int .i64 ((rd_T100 ((rd_T94 l0 x3_1).f1) x4_2).f1))) = w26 at n0_ n1_ ⊢
         have BK192 := n0_; have HB := n1_; clear n0_ n1_; replace BK192 := am (blk_drew BK192.out); replace HB := am (below_drew1 HB.out)
         refine st (n := 34) (S := fun w' => w'.cell? ⟨gb192, 0, none⟩ = some (.int .i64 ((rd_T100 ((rd_T94 l0 x3_1).f1) x4_2).f0)) ∧ w'.cell? ⟨gb192, 1, none⟩ = some (.int .i64 ((rd_T100 ((rd_T94 l0 x3_1).f1) x4_2).f1))) (ds := []) ⟨(blk_cell BK192.out 0).trans rfl, (blk_cell BK192.out 1).trans rfl⟩ (fun hHeld => ?_); refine with_tabW spec_MachineOk.tab8 spec_MachineOk.bits8 (fun HT_ HW_ => ?_)
         generalize w26.drew = w27 at BK192 HB hHeld ⊢
         refine pu 0 30 ?_
         refine tk2 1 31 hHeld ?_
         refine on1 2 32 (fun K hK => ?_)
         refine goes_ Try.func78 (by kernel_rfl) rfl #[.int .i64 ((rd_T100 ((rd_T94 l0 x3_1).f1) x4_2).f0), .int .i64 97, .int .i64 122] (by rfl) rfl rfl mq ?_
         with_reducible refine (spec_l1In.calls ((rd_T100 ((rd_T94 l0 x3_1).f1) x4_2).f0) 97 122 true _ A7.out).mono ?_
         rintro e w' ⟨rfl, ⟨nd, rfl⟩⟩
         refine ⟨_, rfl, ?_⟩
         refine hK.out _ _ ⟨(blk_cell BK192.out 0).trans rfl, (blk_cell BK192.out 1).trans rfl⟩ (fun hHeld => ?_)
         clear hK K
         refine norm_ (a' := ?_) ?_ ?_
         rotate_left
         ·show Act.put _ (some 32) _ = _
          simp only [Act.put, List.setIfInBounds_toArray, List.set_cons_zero, List.set_cons_succ, i64_w, i32_w]
          rfl
         refine pu 3 33 ?_
         refine pu 4 34 ?_
         refine pu 5 35 ?_
         refine pu 7 37 ?_
         refine pu 8 38 ?_
         refine pu 9 39 ?_
         refine pu 10 40 ?_
         refine pu 11 41 ?_
         refine tk2 6 36 hHeld ?_
         refine on1 12 42 (fun K hK => ?_)
         refine goes_ Try.func78 (by kernel_rfl) rfl #[.int .i64 ((rd_T100 ((rd_T94 l0 x3_1).f1) x4_2).f1), .int .i64 (wrap64 (x3_1 + 1)), .int .i64 (wrap64 ((l0.length : Int) - 1))] (by rfl) rfl rfl mq ?_
         with_reducible refine (spec_l1In.calls ((rd_T100 ((rd_T94 l0 x3_1).f1) x4_2).f1) (wrap64 (x3_1 + 1)) (wrap64 ((l0.length : Int) - 1)) true _ A9.out).mono ?_
         rintro e w' ⟨rfl, ⟨nd, rfl⟩⟩
         refine ⟨_, rfl, ?_⟩
         refine hK.out _ _ ⟨(blk_cell BK192.out 0).trans rfl, (blk_cell BK192.out 1).trans rfl⟩ (fun hHeld => ?_)
         clear hK K
         refine norm_ (a' := ?_) ?_ ?_
         rotate_left
         ·show Act.put _ (some 42) _ = _
          simp only [Act.put, List.setIfInBounds_toArray, List.set_cons_zero, List.set_cons_succ, i64_w, i32_w]
          rfl
         refine pu 13 43 ?_
         refine pu 14 44 ?_
         refine pu 15 45 ?_
         refine pu 16 46 ?_
         refine pu 17 47 ?_
         refine pu 18 48 ?_
         refine puu 19 49 ?_
         refine puu 20 50 ?_
         refine puu 21 51 ?_
         refine puu 22 52 ?_
         refine puu 23 53 ?_
         refine puu 24 54 ?_
         refine puu 25 55 ?_
         refine puu 26 56 ?_
         refine puu 27 57 ?_
         refine puu 28 58 ?_
         refine puu 29 59 ?_
         refine puu 30 60 ?_
         refine puu 31 61 ?_
         refine pu 32 62 ?_
         refine pu 33 63 ?_
         refine done_ (done_of HT_.out (by kernel_rfl)) ?_
         try go_wp2
         go_roundg k2
         case measure => have := HK1.out; have := HK2.out; omega
         case rel => exact ⟨(wrap64 (x4_2 + 1)), sq, H', ⟨b25_⟩, ⟨bel1 GE192.out⟩⟩
        replace c10 := Bool.eq_false_iff.mpr c10; subst c10
        have H1 : (some false) = some r := b6_
        replace H := H1; clear H1
        obtain rfl := Option.some.inj H
        have p187 : 0 ≤ (x3_1 : Int) := of_decide_eq_true ad
        have q187 : x3_1 < (l0.length : Int) := of_decide_eq_true ad
        obtain ⟨ad187, A187_1, c187_1, e187, hx187_0, hx187_1, hl187_1, hi187_1⟩ := at_T94 HR0.out x3_1 p187 q187
        cases e187
        replace hx187_0 := kp HB.out hx187_0; replace hx187_1 := kp HB.out hx187_1; have HR187_1 := am hi187_1; have HC187_1 := am hl187_1; clear hi187_1 hl187_1; replace p187 := eq_true p187; replace q187 := eq_true q187
        have p190 : 0 ≤ (x3_1 : Int) := of_decide_eq_true ad
        have q190 : x3_1 < (l0.length : Int) := of_decide_eq_true ad
        obtain ⟨ad190, A190_1, c190_1, e190, hx190_0, hx190_1, hl190_1, hi190_1⟩ := at_T94 HR0.out x3_1 p190 q190
        obtain rfl : ad187 = ad190 := (by injection e190)
        replace hx190_0 := kp HB.out hx190_0; replace hx190_1 := kp HB.out hx190_1; have HR190_1 := am hi190_1; have HC190_1 := am hl190_1; clear hi190_1 hl190_1; replace p190 := eq_true p190; replace q190 := eq_true q190; have ea_ := Option.some.inj (hx187_1.symm.trans hx190_1)
        injection ea_ with ea_ en_ ec_
        subst ea_; subst ec_; clear en_
        have p191 : 0 ≤ (x4_2 : Int) := of_decide_eq_true ad
        have q191 : x4_2 < (((rd_T94 l0 x3_1).f1).length : Int) := of_decide_eq_true ad
        obtain ⟨ad191, e191, hx191_0, hx191_1⟩ := at_T100 HR190_1.out x4_2 p191 q191
        cases e191
        replace hx191_0 := kp HB.out hx191_0; replace hx191_1 := kp HB.out hx191_1; replace p191 := eq_true p191; replace q191 := eq_true q191
        try go_wp2_with (first | ((with_reducible refine gate_dst (N := 5) rfl ?_); (try (refine gate_guard (by rfl) ?_; dsimp only)); refine bx 5 (cs := #[.int .i64 0, .int .i64 0]) (t := 100) ?_; intro gb192 hg w28 hbox hb; have BK192 := am (hbox); have GW192 := am ((b7_ : w.heap.size ≤ gb192)); have GE192 := am ((b7_ : w.heap.size ≤ gb192)); replace HB := am (below_step bel hb); clear hb hbox hg; have hcz29_0 := bc BK192.out 0; have hcz29_1 := bc BK192.out 1; have hfz29_0 := bf BK192.out 0; have hfz29_1 := bf BK192.out 1))
        have n0_ : Aside0 (((w28.setCell ⟨gb192, 0, none⟩ (.int .i64 ((rd_T100 ((rd_T94 l0 x3_1).f1) x4_2).f0))).setCell ⟨gb192, 1, none⟩ (.int .i64 ((rd_T100 ((rd_T94 l0 x3_1).f1) x4_2).f1))).heap[gb192]? = some (.cells #[.int .i64 ((rd_T100 ((rd_T94 l0 x3_1).f1) x4_2).f0), .int .i64 ((rd_T100 ((rd_T94 l0 x3_1).f1) x4_2).f1)] 100 (0, 0))) := ⟨b10_⟩
        have n1_ : Aside0 (Below w.heap.size w ((w28.setCell ⟨gb192, 0, none⟩ (.int .i64 ((rd_T100 ((rd_T94 l0 x3_1).f1) x4_2).f0))).setCell ⟨gb192, 1, none⟩ (.int .i64 ((rd_T100 ((rd_T94 l0 x3_1).f1) x4_2).f1)))) := ⟨bel1 GE192.out⟩
        (try clear BK192)
        (try clear HB)
        generalize ((w28.setCell ⟨gb192, 0, none⟩ (.int .i64 ((rd_T100 ((rd_T94 l0 x3_1).f1) x4_2).f0))).setCell ⟨gb192, 1, none⟩ (.int .i64 ((rd_T100 ((rd_T94 l0 x3_1).f1) x4_2).f1))) = w30 at n0_ n1_ ⊢
        have BK192 := n0_; have HB := n1_; clear n0_ n1_; replace BK192 := am (blk_drew BK192.out); replace HB := am (below_drew1 HB.out)
        refine st (n := 34) (S := fun w' => w'.cell? ⟨gb192, 0, none⟩ = some (.int .i64 ((rd_T100 ((rd_T94 l0 x3_1).f1) x4_2).f0)) ∧ w'.cell? ⟨gb192, 1, none⟩ = some (.int .i64 ((rd_T100 ((rd_T94 l0 x3_1).f1) x4_2).f1))) (ds := []) ⟨(blk_cell BK192.out 0).trans rfl, (blk_cell BK192.out 1).trans rfl⟩ (fun hHeld => ?_); refine with_tabW spec_MachineOk.tab8 spec_MachineOk.bits8 (fun HT_ HW_ => ?_)
        generalize w30.drew = w31 at BK192 HB hHeld ⊢
        refine pu 0 30 ?_
        refine tk2 1 31 hHeld ?_
        refine on1 2 32 (fun K hK => ?_)
        refine goes_ Try.func78 (by kernel_rfl) rfl #[.int .i64 ((rd_T100 ((rd_T94 l0 x3_1).f1) x4_2).f0), .int .i64 97, .int .i64 122] (by rfl) rfl rfl mq ?_
        with_reducible refine (spec_l1In.calls ((rd_T100 ((rd_T94 l0 x3_1).f1) x4_2).f0) 97 122 true _ A7.out).mono ?_
        rintro e w' ⟨rfl, ⟨nd, rfl⟩⟩
        refine ⟨_, rfl, ?_⟩
        refine hK.out _ _ ⟨(blk_cell BK192.out 0).trans rfl, (blk_cell BK192.out 1).trans rfl⟩ (fun hHeld => ?_)
        clear hK K
        refine norm_ (a' := ?_) ?_ ?_
        rotate_left
        ·show Act.put _ (some 32) _ = _
         simp only [Act.put, List.setIfInBounds_toArray, List.set_cons_zero, List.set_cons_succ, i64_w, i32_w]
         rfl
        refine pu 3 33 ?_
        refine pu 4 34 ?_
        refine pu 5 35 ?_
        refine pu 7 37 ?_
        refine pu 8 38 ?_
        refine pu 9 39 ?_
        refine pu 10 40 ?_
        refine pu 11 41 ?_
        refine tk2 6 36 hHeld ?_
        refine on1 12 42 (fun K hK => ?_)
        refine goes_ Try.func78 (by kernel_rfl) rfl #[.int .i64 ((rd_T100 ((rd_T94 l0 x3_1).f1) x4_2).f1), .int .i64 (wrap64 (x3_1 + 1)), .int .i64 (wrap64 ((l0.length : Int) - 1))] (by rfl) rfl rfl mq ?_
        with_reducible refine (spec_l1In.calls ((rd_T100 ((rd_T94 l0 x3_1).f1) x4_2).f1) (wrap64 (x3_1 + 1)) (wrap64 ((l0.length : Int) - 1)) false _ A9.out).mono ?_
        rintro e w' ⟨rfl, ⟨nd, rfl⟩⟩
        refine ⟨_, rfl, ?_⟩
        refine hK.out _ _ ⟨(blk_cell BK192.out 0).trans rfl, (blk_cell BK192.out 1).trans rfl⟩ (fun hHeld => ?_)
        clear hK K
        refine norm_ (a' := ?_) ?_ ?_
        rotate_left
        ·show Act.put _ (some 42) _ = _
         simp only [Act.put, List.setIfInBounds_toArray, List.set_cons_zero, List.set_cons_succ, i64_w, i32_w]
         rfl
        refine pu 13 43 ?_
        refine pu 14 44 ?_
        refine pu 15 45 ?_
        refine puu 16 46 ?_
        refine puu 17 47 ?_
        refine puu 18 48 ?_
        refine puu 19 49 ?_
        refine puu 20 50 ?_
        refine puu 21 51 ?_
        refine puu 22 52 ?_
        refine puu 23 53 ?_
        refine puu 24 54 ?_
        refine puu 25 55 ?_
        refine puu 26 56 ?_
        refine puu 27 57 ?_
        refine puu 28 58 ?_
        refine puu 29 59 ?_
        refine puu 30 60 ?_
        refine puu 31 61 ?_
        refine puu 32 62 ?_
        refine pu 33 63 ?_
        refine done_ (done_of HT_.out (by kernel_rfl)) ?_
        try go_wp2
        go_ret
        exact ⟨eq_, bel1 GE192.out⟩
       replace c8 := Bool.eq_false_iff.mpr c8; subst c8
       have H1 : (some false) = some r := b6_
       replace H := H1; clear H1
       obtain rfl := Option.some.inj H
       have p187 : 0 ≤ (x3_1 : Int) := of_decide_eq_true ad
       have q187 : x3_1 < (l0.length : Int) := of_decide_eq_true ad
       obtain ⟨ad187, A187_1, c187_1, e187, hx187_0, hx187_1, hl187_1, hi187_1⟩ := at_T94 HR0.out x3_1 p187 q187
       cases e187
       replace hx187_0 := kp HB.out hx187_0; replace hx187_1 := kp HB.out hx187_1; have HR187_1 := am hi187_1; have HC187_1 := am hl187_1; clear hi187_1 hl187_1; replace p187 := eq_true p187; replace q187 := eq_true q187
       have p190 : 0 ≤ (x3_1 : Int) := of_decide_eq_true ad
       have q190 : x3_1 < (l0.length : Int) := of_decide_eq_true ad
       obtain ⟨ad190, A190_1, c190_1, e190, hx190_0, hx190_1, hl190_1, hi190_1⟩ := at_T94 HR0.out x3_1 p190 q190
       obtain rfl : ad187 = ad190 := (by injection e190)
       replace hx190_0 := kp HB.out hx190_0; replace hx190_1 := kp HB.out hx190_1; have HR190_1 := am hi190_1; have HC190_1 := am hl190_1; clear hi190_1 hl190_1; replace p190 := eq_true p190; replace q190 := eq_true q190; have ea_ := Option.some.inj (hx187_1.symm.trans hx190_1)
       injection ea_ with ea_ en_ ec_
       subst ea_; subst ec_; clear en_
       have p191 : 0 ≤ (x4_2 : Int) := of_decide_eq_true ad
       have q191 : x4_2 < (((rd_T94 l0 x3_1).f1).length : Int) := of_decide_eq_true ad
       obtain ⟨ad191, e191, hx191_0, hx191_1⟩ := at_T100 HR190_1.out x4_2 p191 q191
       cases e191
       replace hx191_0 := kp HB.out hx191_0; replace hx191_1 := kp HB.out hx191_1; replace p191 := eq_true p191; replace q191 := eq_true q191
       try go_wp2_with (first | ((with_reducible refine gate_dst (N := 5) rfl ?_); (try (refine gate_guard (by rfl) ?_; dsimp only)); refine bx 5 (cs := #[.int .i64 0, .int .i64 0]) (t := 100) ?_; intro gb192 hg w32 hbox hb; have BK192 := am (hbox); have GW192 := am ((b7_ : w.heap.size ≤ gb192)); have GE192 := am ((b7_ : w.heap.size ≤ gb192)); replace HB := am (below_step bel hb); clear hb hbox hg; have hcz33_0 := bc BK192.out 0; have hcz33_1 := bc BK192.out 1; have hfz33_0 := bf BK192.out 0; have hfz33_1 := bf BK192.out 1))
       have n0_ : Aside0 (((w32.setCell ⟨gb192, 0, none⟩ (.int .i64 ((rd_T100 ((rd_T94 l0 x3_1).f1) x4_2).f0))).setCell ⟨gb192, 1, none⟩ (.int .i64 ((rd_T100 ((rd_T94 l0 x3_1).f1) x4_2).f1))).heap[gb192]? = some (.cells #[.int .i64 ((rd_T100 ((rd_T94 l0 x3_1).f1) x4_2).f0), .int .i64 ((rd_T100 ((rd_T94 l0 x3_1).f1) x4_2).f1)] 100 (0, 0))) := ⟨b10_⟩
       have n1_ : Aside0 (Below w.heap.size w ((w32.setCell ⟨gb192, 0, none⟩ (.int .i64 ((rd_T100 ((rd_T94 l0 x3_1).f1) x4_2).f0))).setCell ⟨gb192, 1, none⟩ (.int .i64 ((rd_T100 ((rd_T94 l0 x3_1).f1) x4_2).f1)))) := ⟨bel1 GE192.out⟩
       (try clear BK192)
       (try clear HB)
       generalize ((w32.setCell ⟨gb192, 0, none⟩ (.int .i64 ((rd_T100 ((rd_T94 l0 x3_1).f1) x4_2).f0))).setCell ⟨gb192, 1, none⟩ (.int .i64 ((rd_T100 ((rd_T94 l0 x3_1).f1) x4_2).f1))) = w34 at n0_ n1_ ⊢
       have BK192 := n0_; have HB := n1_; clear n0_ n1_; replace BK192 := am (blk_drew BK192.out); replace HB := am (below_drew1 HB.out)
       refine st (n := 34) (S := fun w' => w'.cell? ⟨gb192, 0, none⟩ = some (.int .i64 ((rd_T100 ((rd_T94 l0 x3_1).f1) x4_2).f0)) ∧ w'.cell? ⟨gb192, 1, none⟩ = some (.int .i64 ((rd_T100 ((rd_T94 l0 x3_1).f1) x4_2).f1))) (ds := []) ⟨(blk_cell BK192.out 0).trans rfl, (blk_cell BK192.out 1).trans rfl⟩ (fun hHeld => ?_); refine with_tabW spec_MachineOk.tab8 spec_MachineOk.bits8 (fun HT_ HW_ => ?_)
       generalize w34.drew = w35 at BK192 HB hHeld ⊢
       refine pu 0 30 ?_
       refine tk2 1 31 hHeld ?_
       refine on1 2 32 (fun K hK => ?_)
       refine goes_ Try.func78 (by kernel_rfl) rfl #[.int .i64 ((rd_T100 ((rd_T94 l0 x3_1).f1) x4_2).f0), .int .i64 97, .int .i64 122] (by rfl) rfl rfl mq ?_
       with_reducible refine (spec_l1In.calls ((rd_T100 ((rd_T94 l0 x3_1).f1) x4_2).f0) 97 122 false _ A7.out).mono ?_
       rintro e w' ⟨rfl, ⟨nd, rfl⟩⟩
       refine ⟨_, rfl, ?_⟩
       refine hK.out _ _ ⟨(blk_cell BK192.out 0).trans rfl, (blk_cell BK192.out 1).trans rfl⟩ (fun hHeld => ?_)
       clear hK K
       refine norm_ (a' := ?_) ?_ ?_
       rotate_left
       ·show Act.put _ (some 32) _ = _
        simp only [Act.put, List.setIfInBounds_toArray, List.set_cons_zero, List.set_cons_succ, i64_w, i32_w]
        rfl
       refine pu 3 33 ?_
       refine pu 4 34 ?_
       refine puu 5 35 ?_
       refine puu 6 36 ?_
       refine puu 7 37 ?_
       refine puu 8 38 ?_
       refine puu 9 39 ?_
       refine puu 10 40 ?_
       refine puu 11 41 ?_
       refine puu 12 42 ?_
       refine puu 13 43 ?_
       refine pu 14 44 ?_
       refine pu 15 45 ?_
       refine puu 16 46 ?_
       refine puu 17 47 ?_
       refine puu 18 48 ?_
       refine puu 19 49 ?_
       refine puu 20 50 ?_
       refine puu 21 51 ?_
       refine puu 22 52 ?_
       refine puu 23 53 ?_
       refine puu 24 54 ?_
       refine puu 25 55 ?_
       refine puu 26 56 ?_
       refine puu 27 57 ?_
       refine puu 28 58 ?_
       refine puu 29 59 ?_
       refine puu 30 60 ?_
       refine puu 31 61 ?_
       refine puu 32 62 ?_
       refine pu 33 63 ?_
       refine done_ (done_of HT_.out (by kernel_rfl)) ?_
       try go_wp2
       go_ret
       exact ⟨eq_, bel1 GE192.out⟩
      rw [if_neg c5] at H; have c5b0 := decide_eq_false c5; clear c5
      by_cases c36 : x3_1 > 0
      ·rw [if_pos c36] at H; have c36b0 := decide_eq_true c36; clear c36; obtain ⟨bq37, hbq37⟩ : ∃ b_ : Bool, b_ = ((rd_T94 l0 x3_1).f0) := ⟨_, rfl⟩
       replace H : (if (bq37 = true) then (spec_MachineOk.l0 k2 l0 (wrap64 (x3_1 + 1))) else (if (((rd_T94 l0 x3_1).f1).length : Int) = 0 then (some false) else (spec_MachineOk.l0 k2 l0 (wrap64 (x3_1 + 1))))) = some r := by rw [← hbq37] at H; exact H
       have Nbq37 := am hbq37; clear hbq37
       by_cases c38 : (bq37 = true)
       ·subst c38
        (try rw [← Nbq37.out] at hx190_0)
        (try rw [← Nbq37.out])
        have H1 : (spec_MachineOk.l0 k2 l0 (wrap64 (x3_1 + 1))) = some r := b21_
        replace H := H1; clear H1
        have H' := am H
        clear H
        have p187 : 0 ≤ (x3_1 : Int) := of_decide_eq_true ad
        have q187 : x3_1 < (l0.length : Int) := of_decide_eq_true ad
        obtain ⟨ad187, A187_1, c187_1, e187, hx187_0, hx187_1, hl187_1, hi187_1⟩ := at_T94 HR0.out x3_1 p187 q187
        (try rw [← Nbq37.out] at hx187_0)
        cases e187
        replace hx187_0 := kp HB.out hx187_0; replace hx187_1 := kp HB.out hx187_1; have HR187_1 := am hi187_1; have HC187_1 := am hl187_1; clear hi187_1 hl187_1; replace p187 := eq_true p187; replace q187 := eq_true q187
        have p188 : 0 ≤ (x3_1 : Int) := of_decide_eq_true ad
        have q188 : x3_1 < (l0.length : Int) := of_decide_eq_true ad
        obtain ⟨ad188, A188_1, c188_1, e188, hx188_0, hx188_1, hl188_1, hi188_1⟩ := at_T94 HR0.out x3_1 p188 q188
        (try rw [← Nbq37.out] at hx188_0)
        obtain rfl : ad187 = ad188 := (by injection e188)
        replace hx188_0 := kp HB.out hx188_0; replace hx188_1 := kp HB.out hx188_1; have HR188_1 := am hi188_1; have HC188_1 := am hl188_1; clear hi188_1 hl188_1; replace p188 := eq_true p188; replace q188 := eq_true q188; have ea_ := Option.some.inj (hx187_1.symm.trans hx188_1)
        injection ea_ with ea_ en_ ec_
        subst ea_; subst ec_; clear en_; go_wp2
        go_roundg k2
        case measure => have := HK1.out; have := HK2.out; omega
        case rel => (try rw [← Nbq37.out]); exact ⟨(wrap64 (x3_1 + 1)), sq, H', ⟨b25_⟩, ⟨bel⟩⟩
       replace c38 := Bool.eq_false_iff.mpr c38; subst c38
       (try rw [← Nbq37.out] at hx190_0)
       (try rw [← Nbq37.out])
       have H1 : (if (((rd_T94 l0 x3_1).f1).length : Int) = 0 then (some false) else (spec_MachineOk.l0 k2 l0 (wrap64 (x3_1 + 1)))) = some r := b6_
       replace H := H1; clear H1
       by_cases c39 : (((rd_T94 l0 x3_1).f1).length : Int) = 0
       ·rw [if_pos c39] at H
        have c39b0 : ((((rd_T94 l0 x3_1).f1).length : Int) == 0) = true := beq_iff_eq.mpr c39
        have c39b1 : ((((rd_T94 l0 x3_1).f1).length : Int) != 0) = false := bne_eq_false_iff_eq.mpr c39
        clear c39; obtain rfl := Option.some.inj H
        have p187 : 0 ≤ (x3_1 : Int) := of_decide_eq_true ad
        have q187 : x3_1 < (l0.length : Int) := of_decide_eq_true ad
        obtain ⟨ad187, A187_1, c187_1, e187, hx187_0, hx187_1, hl187_1, hi187_1⟩ := at_T94 HR0.out x3_1 p187 q187
        (try rw [← Nbq37.out] at hx187_0)
        cases e187
        replace hx187_0 := kp HB.out hx187_0; replace hx187_1 := kp HB.out hx187_1; have HR187_1 := am hi187_1; have HC187_1 := am hl187_1; clear hi187_1 hl187_1; replace p187 := eq_true p187; replace q187 := eq_true q187
        have p188 : 0 ≤ (x3_1 : Int) := of_decide_eq_true ad
        have q188 : x3_1 < (l0.length : Int) := of_decide_eq_true ad
        obtain ⟨ad188, A188_1, c188_1, e188, hx188_0, hx188_1, hl188_1, hi188_1⟩ := at_T94 HR0.out x3_1 p188 q188
        (try rw [← Nbq37.out] at hx188_0)
        obtain rfl : ad187 = ad188 := (by injection e188)
        replace hx188_0 := kp HB.out hx188_0; replace hx188_1 := kp HB.out hx188_1; have HR188_1 := am hi188_1; have HC188_1 := am hl188_1; clear hi188_1 hl188_1; replace p188 := eq_true p188; replace q188 := eq_true q188; have ea_ := Option.some.inj (hx187_1.symm.trans hx188_1)
        injection ea_ with ea_ en_ ec_
        subst ea_; subst ec_; clear en_
        have p189 : 0 ≤ (x3_1 : Int) := of_decide_eq_true ad
        have q189 : x3_1 < (l0.length : Int) := of_decide_eq_true ad
        obtain ⟨ad189, A189_1, c189_1, e189, hx189_0, hx189_1, hl189_1, hi189_1⟩ := at_T94 HR0.out x3_1 p189 q189
        (try rw [← Nbq37.out] at hx189_0)
        obtain rfl : ad187 = ad189 := (by injection e189)
        replace hx189_0 := kp HB.out hx189_0; replace hx189_1 := kp HB.out hx189_1; have HR189_1 := am hi189_1; have HC189_1 := am hl189_1; clear hi189_1 hl189_1; replace p189 := eq_true p189; replace q189 := eq_true q189; have ea_ := Option.some.inj (hx187_1.symm.trans hx189_1)
        injection ea_ with ea_ en_ ec_
        subst ea_; subst ec_; clear en_; go_wp2; go_ret
        exact ⟨eq_, bel⟩
       rw [if_neg c39] at H
       have c39b0 : ((((rd_T94 l0 x3_1).f1).length : Int) == 0) = false := beq_eq_false_iff_ne.mpr c39
       have c39b1 : ((((rd_T94 l0 x3_1).f1).length : Int) != 0) = true := bne_iff_ne.mpr c39
       have c39b2 : ¬ (((rd_T94 l0 x3_1).f1) = []) := fun h_ => c39 (by rw [h_]; rfl)
       have H' := am H
       clear H
       have p187 : 0 ≤ (x3_1 : Int) := of_decide_eq_true ad
       have q187 : x3_1 < (l0.length : Int) := of_decide_eq_true ad
       obtain ⟨ad187, A187_1, c187_1, e187, hx187_0, hx187_1, hl187_1, hi187_1⟩ := at_T94 HR0.out x3_1 p187 q187
       (try rw [← Nbq37.out] at hx187_0)
       cases e187
       replace hx187_0 := kp HB.out hx187_0; replace hx187_1 := kp HB.out hx187_1; have HR187_1 := am hi187_1; have HC187_1 := am hl187_1; clear hi187_1 hl187_1; replace p187 := eq_true p187; replace q187 := eq_true q187
       have p188 : 0 ≤ (x3_1 : Int) := of_decide_eq_true ad
       have q188 : x3_1 < (l0.length : Int) := of_decide_eq_true ad
       obtain ⟨ad188, A188_1, c188_1, e188, hx188_0, hx188_1, hl188_1, hi188_1⟩ := at_T94 HR0.out x3_1 p188 q188
       (try rw [← Nbq37.out] at hx188_0)
       obtain rfl : ad187 = ad188 := (by injection e188)
       replace hx188_0 := kp HB.out hx188_0; replace hx188_1 := kp HB.out hx188_1; have HR188_1 := am hi188_1; have HC188_1 := am hl188_1; clear hi188_1 hl188_1; replace p188 := eq_true p188; replace q188 := eq_true q188; have ea_ := Option.some.inj (hx187_1.symm.trans hx188_1)
       injection ea_ with ea_ en_ ec_
       subst ea_; subst ec_; clear en_
       have p189 : 0 ≤ (x3_1 : Int) := of_decide_eq_true ad
       have q189 : x3_1 < (l0.length : Int) := of_decide_eq_true ad
       obtain ⟨ad189, A189_1, c189_1, e189, hx189_0, hx189_1, hl189_1, hi189_1⟩ := at_T94 HR0.out x3_1 p189 q189
       (try rw [← Nbq37.out] at hx189_0)
       obtain rfl : ad187 = ad189 := (by injection e189)
       replace hx189_0 := kp HB.out hx189_0; replace hx189_1 := kp HB.out hx189_1; have HR189_1 := am hi189_1; have HC189_1 := am hl189_1; clear hi189_1 hl189_1; replace p189 := eq_true p189; replace q189 := eq_true q189; have ea_ := Option.some.inj (hx187_1.symm.trans hx189_1)
       injection ea_ with ea_ en_ ec_
       subst ea_; subst ec_; clear en_; go_wp2
       go_roundg k2
       case measure => have := HK1.out; have := HK2.out; omega
       case rel => (try rw [← Nbq37.out]); exact ⟨(wrap64 (x3_1 + 1)), sq, H', ⟨b25_⟩, ⟨bel⟩⟩
      rw [if_neg c36] at H; have c36b0 := decide_eq_false c36; clear c36
      have H' := am H
      clear H
      have p187 : 0 ≤ (x3_1 : Int) := of_decide_eq_true ad
      have q187 : x3_1 < (l0.length : Int) := of_decide_eq_true ad
      obtain ⟨ad187, A187_1, c187_1, e187, hx187_0, hx187_1, hl187_1, hi187_1⟩ := at_T94 HR0.out x3_1 p187 q187
      cases e187
      replace hx187_0 := kp HB.out hx187_0; replace hx187_1 := kp HB.out hx187_1; have HR187_1 := am hi187_1; have HC187_1 := am hl187_1; clear hi187_1 hl187_1; replace p187 := eq_true p187; replace q187 := eq_true q187; go_wp2
      go_roundg k2
      case measure => have := HK1.out; have := HK2.out; omega
      case rel => exact ⟨(wrap64 (x3_1 + 1)), sq, H', ⟨b25_⟩, ⟨bel⟩⟩
   rw [if_neg c2] at H; have c2b0 := decide_eq_false c2; clear c2; replace H := bs H; obtain ⟨t185, A400, H⟩ := H; replace H : (if t185 = true then ((spec_l3Deep.f k1 l0).bind fun t186 => (some (decide (t186 ≤ 12)))) else (some false)) = some r := H; have A40 := Aside0.mk A400; clear A400
   by_cases c41 : t185 = true
   ·subst c41
    have H1 : ((spec_l3Deep.f k1 l0).bind fun t186 => (some (decide (t186 ≤ 12)))) = some r := b21_
    replace H := H1; clear H1
    replace H := bs H; obtain ⟨t186, A420, H⟩ := H; replace H : (some (decide (t186 ≤ 12))) = some r := H; have A42 := Aside0.mk A420; clear A420; obtain rfl := Option.some.inj H
    go_wp2_with (first | ((with_reducible refine gate_callee (f := 78) rfl ?_); refine goesL_ (some 85) rfl rfl Try.func78 (by kernel_rfl) rfl #[.int .i64 (l0.length : Int), .int .i64 1, .int .i64 400] rfl mq ?_; (with_reducible refine (spec_l1In.calls (l0.length : Int) 1 400 true _ A40.out).mono ?_); rintro e w' ⟨rfl, ⟨nd, rfl⟩⟩; refine ⟨_, rfl, ?_⟩) | (go_at_call 79; (with_reducible refine (spec_l3Deep.calls k1 _ _ l0 t186 _ ?side1 ?side2 A42.out).mono ?_); (case side1 => exact cq (Kd.C_below HR0.out bel)); (case side2 => exact HC0.out); rintro e w43 ⟨rfl, hb⟩; replace HB := am (below_step bel hb); (try clear hb); (try clear hb2); (try clear hk); (try clear hi)))
    go_ret
    exact ⟨eq_, bel⟩
   replace c41 := Bool.eq_false_iff.mpr c41; subst c41
   have H1 : (some false) = some r := b6_
   replace H := H1; clear H1
   obtain rfl := Option.some.inj H
   go_wp2_with (first | ((with_reducible refine gate_callee (f := 78) rfl ?_); refine goesL_ (some 85) rfl rfl Try.func78 (by kernel_rfl) rfl #[.int .i64 (l0.length : Int), .int .i64 1, .int .i64 400] rfl mq ?_; (with_reducible refine (spec_l1In.calls (l0.length : Int) 1 400 false _ A40.out).mono ?_); rintro e w' ⟨rfl, ⟨nd, rfl⟩⟩; refine ⟨_, rfl, ?_⟩))
   go_ret
   exact ⟨eq_, bel⟩
end Go.Proofs.Ytfpmfaelodfecaa.QFnMachineRank
