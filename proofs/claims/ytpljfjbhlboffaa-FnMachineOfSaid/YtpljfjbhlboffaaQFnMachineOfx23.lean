import Derived.Test.YtpljfjbhlboffaaQFnMachineOfx0
import Derived.Test.YtpljfjbhlboffaaQFnMachineOfx6
import Derived.Test.YtpljfjbhlboffaaQFnMachineOfx18
import Derived.Test.YtpljfjbhlboffaaVMSh2
import Derived.Test.YtpljfjbhlboffaaQFnMachineOfx10
import Derived.Test.YtpljfjbhlboffaaQFnMachineOfx15
namespace Go.Proofs.Ytpljfjbhlboffaa.QFnMachineOf
open Go.RowKit Go.Proofs.YtpljfjbhlboffaaW.PrintWords Go.Proofs.YtpljfjbhlboffaaW.PrintLast Go.Proofs.YtpljfjbhlboffaaW.PrintMore Go.Proofs.Ytpljfjbhlboffaa.Sh
attribute [local go_sem] max2_int min2_int max_two min_two max_three min_three max_four min_four
set_option linter.unusedVariables false
set_option linter.unusedSimpArgs false
set_option maxHeartbeats 8000000
set_option maxRecDepth 100000
-- shrunk

/-! ### impl_MachineWord: function 19 -/
mutual
def impl_MachineWord.j0 : Nat → List (S45) → Int → List Int → Bool → Option (ByteArray)
 | 0, _, _, _, _ => none
 | k + 1, x0, x1, x5, x27 => if x27 = true then (some (⟨#[]⟩ : ByteArray)) else (impl_MachineWord.l0 k x0 x1 x5 (([] : List Int)) 0)
def impl_MachineWord.l0 : Nat → List (S45) → Int → List Int → List Int → Int → Option (ByteArray)
 | 0, _, _, _, _, _ => none
 | k + 1, x0, x1, x5, x6, x7 => if 0 ≤ x7 then (if x7 < (x0.length : Int) then (if (rd_T45 x0 x7).f0 = true then (if x1 = 0 then (some (strOfNums x6)) else (impl_MachineWord.j2 k x0 (wrap64 (x1 - 1)) x5 x6 x7)) else (impl_MachineWord.j2 k x0 x1 x5 x6 x7)) else (none)) else (none)
def impl_MachineWord.j2 : Nat → List (S45) → Int → List Int → List Int → Int → Option (ByteArray)
 | 0, _, _, _, _, _ => none
 | k + 1, x0, x1, x5, x6, x7 => if 0 ≤ x7 then (if x7 < (x0.length : Int) then (impl_MachineWord.l1 k x0 x1 x5 x6 x7 ((rd_T45 x0 x7).f1) (((rd_T45 x0 x7).f1).length : Int) 0) else (none)) else (none)
def impl_MachineWord.l1 : Nat → List (S45) → Int → List Int → List Int → Int → List (S49) → Int → Int → Option (ByteArray)
 | 0, _, _, _, _, _, _, _, _ => none
 | k + 1, x0, x1, x5, x6, x7, x44, x45, x46 => if x46 < x45 then (if 0 ≤ x46 then (if x46 < (x44.length : Int) then (if 0 ≤ ((rd_T49 x44 x46).f1) then (if ((rd_T49 x44 x46).f1) < (x5.length : Int) then (if x1 < (rd x5 ((rd_T49 x44 x46).f1)) then (if x6.length < 140737488355328 then (impl_MachineWord.l0 k x0 x1 x5 (x6 ++ [((rd_T49 x44 x46).f0) % 256]) ((rd_T49 x44 x46).f1)) else (none)) else (impl_MachineWord.l1 k x0 (wrap64 (x1 - (rd x5 ((rd_T49 x44 x46).f1)))) x5 x6 x7 x44 x45 (wrap64 (x46 + 1)))) else (none)) else (none)) else (none)) else (none)) else (impl_MachineWord.l0 k x0 x1 x5 x6 x7)
end
def impl_MachineWord.f (k : Nat) (l0 : List (S45)) (a1 : Int) : Option (ByteArray) := (impl_MachineOk.f k l0).bind fun t481 => (if t481 = true then ((impl_counts.f k l0).bind fun t482 => (if 0 < (t482.length : Int) then (if (rd t482 0) = 1000000000 then (impl_MachineWord.j0 k l0 a1 t482 true) else ((impl_within.f a1 0 (wrap64 ((rd t482 0) - 1))).bind fun t487 => (impl_MachineWord.j0 k l0 a1 t482 (!t487)))) else (none))) else (some (⟨#[]⟩ : ByteArray)))
theorem impl_MachineWord.calls (k : Nat) (A0 : Option Addr) (c0 : Nat) (l0 : List (S45)) (a1 : Int) (r : ByteArray) (w : World) (hr0 : Kd.C k45 w A0 l0.length l0) (hc0 : l0.length ≤ c0) (h : impl_MachineWord.f k l0 a1 = some r) :
  Calls Try.prog 19 #[.slice A0 l0.length c0, .int .i64 a1] w fun e w' => e = .returned (.string r) ∧ Below w.heap.size w w' := by
 have hu49 := Try.underlying49; have HR0 := am hr0; have HC0 := am hc0; clear hr0 hc0; have HB := am (Below.refl w.heap.size w)
 have H : ((impl_MachineOk.f k l0).bind fun t481 => (if t481 = true then ((impl_counts.f k l0).bind fun t482 => (if 0 < (t482.length : Int) then (if (rd t482 0) = 1000000000 then (impl_MachineWord.j0 k l0 a1 t482 true) else ((impl_within.f a1 0 (wrap64 ((rd t482 0) - 1))).bind fun t487 => (impl_MachineWord.j0 k l0 a1 t482 (!t487)))) else (none))) else (some (⟨#[]⟩ : ByteArray)))) = some r := h
 clear h; replace H := bs H; obtain ⟨t481, A30, H⟩ := H; (try dsimp only at H); have A3 := Aside0.mk A30; clear A30
 by_cases c4 : t481 = true
 ·subst c4
  rw [if_pos rfl] at H
  replace H := bs H; obtain ⟨t482, A50, H⟩ := H; (try dsimp only at H); have A5 := Aside0.mk A50; clear A50; have HC6 := am H; clear H; go_enter Try.func19, Try.ntmps19
  go_upto_region 4 with (first | ((with_reducible refine gate_callee (f := 20) rfl ?_); refine gl 11 Try.func20 #[.slice A0 l0.length c0] ?_; (with_reducible refine (impl_MachineOk.calls k _ _ l0 true _ ?side1 ?side2 A3.out).mono ?_); (case side1 => repeat (first | exact HR0.out | (with_reducible refine Kd.C_alloc ?_ _) | (with_reducible refine Kd.C_drewN ?_ _) | (with_reducible refine Kd.C_drew ?_))); (case side2 => exact HC0.out); rintro e w7 ⟨rfl, hb⟩; refine ⟨_, rfl, ?_⟩; replace HB := am (below_step bel hb); clear hb) | ((with_reducible refine gate_callee (f := 45) rfl ?_); refine gl 14 Try.func45 #[.slice A0 l0.length c0] ?_; (with_reducible refine (impl_counts.calls k _ _ l0 t482 _ ?side1 ?side2 A5.out).mono ?_); (case side1 => exact cq (Kd.C_below HR0.out HB.out)); (case side2 => exact HC0.out); rintro e w8 ⟨v483, rfl, ho0, hb⟩; refine ⟨_, rfl, ?_⟩; have HO484 := am (Kd.R_lower ho0 (below_size bel)); replace HB := am (below_step bel hb); clear hb; (try clear ho0)))
  (try simp only [Act.put, List.setIfInBounds_toArray, List.set_cons_zero, List.set_cons_succ])
  go_cut [27] (fun v27 wc => ∃ (kq : Nat) (x27_5 : Bool), v27 = .bool x27_5 ∧ Aside0 (impl_MachineWord.j0 kq l0 a1 t482 x27_5 = some r) ∧ Aside0 (kq ≤ k) ∧ Aside0 (Kd.R (Kd.int .i64) 3 wc w.heap.size (fun _ => True) v483 t482) ∧ Aside0 (Below w.heap.size w wc))
  case first =>
   have H := HC6.out; clear HC6; replace H := ip H; obtain ⟨c9, H⟩ := H; have c9b0 := decide_eq_true c9
   have c9b1 : decide (0 < t482.length) = true := decide_eq_true (by omega)
   clear c9
   (first | rw [c9b0] | (simp only [i64_w, i32_w]; rw [c9b0]) | skip)
   by_cases c10 : (rd t482 0) = 1000000000
   ·rw [if_pos c10] at H
    have c10b0 : ((rd t482 0) == 1000000000) = true := beq_iff_eq.mpr c10
    have c10b1 : ((rd t482 0) != 1000000000) = false := bne_eq_false_iff_eq.mpr c10
    clear c10
    have H' := am H
    clear H; obtain ⟨Ao11, co11, eo11⟩ := Kd.R_slice HO484.out; subst eo11
    have p485 : 0 ≤ (0 : Int) := (by omega)
    have q485 : 0 < (t482.length : Int) := of_decide_eq_true ad
    obtain ⟨ad485, e485, hx485_0⟩ := Kd.at_int (Kd.R_reads' HO484.out).2.2 0 p485 q485; cases e485
    have qi485 : (0 < t482.length) = True := eq_true (by omega)
    (try rw [show ((0 : Int)).toNat = 0 from rfl] at hx485_0)
    (try rw [Addr.add_zero'] at hx485_0)
    replace p485 := eq_true p485; replace q485 := eq_true q485; go_wp2
    go_meet
    case rel => exact ⟨_, (true), sq, H', ⟨b76_⟩, ⟨rq HO484.out⟩, ⟨bel⟩⟩
   rw [if_neg c10] at H
   have c10b0 : ((rd t482 0) == 1000000000) = false := beq_eq_false_iff_ne.mpr c10
   have c10b1 : ((rd t482 0) != 1000000000) = true := bne_iff_ne.mpr c10
   replace H := bs H; obtain ⟨t487, A120, H⟩ := H; (try dsimp only at H); have A12 := Aside0.mk A120; clear A120
   have H' := am H
   clear H; obtain ⟨Ao13, co13, eo13⟩ := Kd.R_slice HO484.out; subst eo13
   have p485 : 0 ≤ (0 : Int) := (by omega)
   have q485 : 0 < (t482.length : Int) := of_decide_eq_true ad
   obtain ⟨ad485, e485, hx485_0⟩ := Kd.at_int (Kd.R_reads' HO484.out).2.2 0 p485 q485; cases e485
   have qi485 : (0 < t482.length) = True := eq_true (by omega)
   (try rw [show ((0 : Int)).toNat = 0 from rfl] at hx485_0)
   (try rw [Addr.add_zero'] at hx485_0)
   replace p485 := eq_true p485; replace q485 := eq_true q485
   have p486 : 0 ≤ (0 : Int) := (by omega)
   have q486 : 0 < (t482.length : Int) := of_decide_eq_true ad
   obtain ⟨ad486, e486, hx486_0⟩ := Kd.at_int (Kd.R_reads' HO484.out).2.2 0 p486 q486
   obtain rfl : ad485 = ad486 := (by injection e486)
   have qi486 : (0 < t482.length) = True := eq_true (by omega)
   (try rw [show ((0 : Int)).toNat = 0 from rfl] at hx486_0)
   (try rw [Addr.add_zero'] at hx486_0)
   replace p486 := eq_true p486; replace q486 := eq_true q486
   go_wp2_with (first | (go_at_call 47; (with_reducible refine (impl_within.calls a1 0 (wrap64 ((rd t482 0) - 1)) t487 _ A12.out).mono ?_); rintro e w' ⟨rfl, ⟨nd, rfl⟩⟩))
   go_meet
   case rel => exact ⟨_, (!t487), sq, H', ⟨b76_⟩, ⟨rq HO484.out⟩, ⟨bel⟩⟩
  case rest =>
   clear HC6; (try clear c1); (try clear c2); (try clear p2); (try clear c4); (try clear p4); (try clear q4); (try clear hx4); (try clear qi4); (try clear p6); (try clear c9); (try clear c9b0); (try clear c9b1); (try clear c10); (try clear c10b0); (try clear c10b1); (try clear hx485_0); (try clear hx486_0); (try clear p485); (try clear p486); (try clear q485); (try clear q486); obtain ⟨kq, x27_5, rfl, HA, HJ5, HO_5, HB⟩ := hcut
   cases kq with
   | zero => exact absurd HA.out (by simp [impl_MachineWord.j0])
   | succ kj5 =>
    have H := HA.out; clear HA; simp only [impl_MachineWord.j0] at H
    by_cases c14 : x27_5 = true
    ·subst c14
     rw [if_pos rfl] at H
     obtain rfl := Option.some.inj H; go_wp2; go_ret
     exact ⟨eq_, bel⟩
    replace c14 := Bool.eq_false_iff.mpr c14; subst c14
    rw [if_neg Bool.false_ne_true] at H
    obtain ⟨y488, hy488⟩ : ∃ y_ : List Int, y_ = (([] : List Int)) := ⟨_, rfl⟩
    replace H : (impl_MachineWord.l0 kj5 l0 a1 t482 y488 0) = some r := by first | (rw [hy488]; with_reducible exact H) | (have H2_ := bm H; rw [hy488]; with_reducible exact H2_) | (with_reducible exact bm H) | with_reducible exact H | (rw [hy488]; exact H) | exact H
    have Ny488 := am hy488; clear hy488
    have H' := am H
    clear H
    go_wp2_with (first | ((with_reducible refine gate_dst (N := 28) rfl ?_); refine Kd.R_lit (Kd.int .u8) _ 5 ?hg (N := 28) ?hd (xs := ([] : List Int)) (inner := []) (ok := fun _ => True) (okp := fun _ => True) ?hr ?hp (fun _ hk => hk) trivial (Below.refl _ _) (Nat.le_refl _) (by simp) ?_; (case hd => rfl); (case hg => rfl); (case hr => first | (go_simp; done) | (go_simp; rfl)); (case hp => exact (Reps.none _ _)); intro v489 w15 ho16 hb hg_ hnew_; clear hg_ hnew_; (first | rw [← Ny488.out] at ho16 | (simp only [Int.reduceToNat] at ho16; rw [← Ny488.out] at ho16) | (simp only [Int.toNat_natCast] at ho16; rw [← Ny488.out] at ho16)); replace HO_5 := am (Kd.R_below (rq HO_5.out) hb); have HO490 := am (Kd.R_lower ho16 (below_size bel)); replace HB := am (below_step bel hb); clear hb ho16))
    go_loopg [1, 6, 7] kj5 (fun kq v1 v6 v7 w' => ∃ (x1_2 : Int) (x6_2 : List Int) (x7_2 : Int), v1 = .int .i64 x1_2 ∧ v7 = .int .i64 x7_2 ∧ Aside0 (impl_MachineWord.l0 kq l0 x1_2 t482 x6_2 x7_2 = some r) ∧ Aside0 (kq ≤ kj5) ∧ Aside0 (Kd.R (Kd.int .i64) 3 w' w.heap.size (fun _ => True) v483 t482) ∧ Aside0 (Kd.R (Kd.int .u8) 5 w' w.heap.size (fun _ => True) v6 x6_2) ∧ Aside0 (Below w.heap.size w w'))
    case atStart => exact ⟨(a1), (y488), (0), sq, sq, H', ⟨Nat.le_refl _⟩, ⟨rq HO_5.out⟩, ⟨rq HO490.out⟩, ⟨bel⟩⟩
    case round =>
     clear H'; (try clear c1); (try clear c2); (try clear p2); (try clear c4); (try clear p4); (try clear q4); (try clear hx4); (try clear qi4); (try clear p6); (try clear c9); (try clear c9b0); (try clear c9b1); (try clear c10); (try clear c10b0); (try clear c10b1); (try clear c14); (try clear hx485_0); (try clear hx486_0); (try clear p2); (try clear p4); (try clear p485); (try clear p486); (try clear p6); (try clear q4); (try clear q485); (try clear q486); obtain ⟨x1_2, x6_2, x7_2, rfl, rfl, HA, HK2, HO_5, HO_6, HB⟩ := hrel
     cases gk with
     | zero => exact absurd HA.out (by simp [impl_MachineWord.l0])
     | succ k2 =>
      have H := HA.out; clear HA; simp only [impl_MachineWord.l0] at H; replace H := it H; obtain ⟨c17b0, H⟩ := H; replace H := it H; obtain ⟨c18b0, H⟩ := H; have HC19 := am H; clear H
      have p491 : 0 ≤ (x7_2 : Int) := of_decide_eq_true ad
      have q491 : x7_2 < (l0.length : Int) := of_decide_eq_true ad
      obtain ⟨ad491, A491_1, c491_1, e491, hx491_0, hx491_1, hl491_1, hi491_1⟩ := at_T45 HR0.out x7_2 p491 q491; cases e491; replace hx491_0 := kp HB.out hx491_0; replace hx491_1 := kp HB.out hx491_1; have HR491_1 := am hi491_1; have HC491_1 := am hl491_1; clear hi491_1 hl491_1; replace p491 := eq_true p491; replace q491 := eq_true q491
      go_upto_if 33 with (fail)
      go_cut [1] (fun v1 wc => ∃ (kq : Nat) (x1_18 : Int), v1 = .int .i64 x1_18 ∧ Aside0 (impl_MachineWord.j2 kq l0 x1_18 t482 x6_2 x7_2 = some r) ∧ Aside0 (kq ≤ k2) ∧ Aside0 (Kd.R (Kd.int .i64) 3 wc w.heap.size (fun _ => True) v483 t482) ∧ Aside0 (Kd.R (Kd.int .u8) 5 wc w.heap.size (fun _ => True) u6 x6_2) ∧ Aside0 (Below w.heap.size w wc))
      case first =>
       have H := HC19.out; clear HC19; obtain ⟨bq20, hbq20⟩ : ∃ b_ : Bool, b_ = ((rd_T45 l0 x7_2).f0) := ⟨_, rfl⟩
       replace H : (if bq20 = true then (if x1_2 = 0 then (some (strOfNums x6_2)) else (impl_MachineWord.j2 k2 l0 (wrap64 (x1_2 - 1)) t482 x6_2 x7_2)) else (impl_MachineWord.j2 k2 l0 x1_2 t482 x6_2 x7_2)) = some r := by rw [← hbq20] at H; exact H
       have Nbq20 := am hbq20; clear hbq20
       (try rw [← Nbq20.out])
       by_cases c21 : bq20 = true
       ·subst c21
        rw [if_pos rfl] at H
        by_cases c22 : x1_2 = 0
        ·rw [if_pos c22] at H
         have c22b0 : (x1_2 == 0) = true := beq_iff_eq.mpr c22
         have c22b1 : (x1_2 != 0) = false := bne_eq_false_iff_eq.mpr c22
         clear c22; obtain rfl := Option.some.inj H; have hcv23 := own_string (P := Try.prog) Try.underlying32 Try.underlying5 Try.underlying9 (Kd.own_of_R HO_6.out); go_wp2; go_ret
         exact ⟨eq_, bel⟩
        rw [if_neg c22] at H
        have c22b0 : (x1_2 == 0) = false := beq_eq_false_iff_ne.mpr c22
        have c22b1 : (x1_2 != 0) = true := bne_iff_ne.mpr c22
        have H' := am H
        clear H; go_wp2
        go_meet
        case rel => exact ⟨_, (wrap64 (x1_2 - 1)), sq, H', ⟨by have := HJ5.out; have := HK2.out; first | omega | exact Nat.le_refl _⟩, ⟨rq HO_5.out⟩, ⟨rq HO_6.out⟩, ⟨bel⟩⟩
       replace c21 := Bool.eq_false_iff.mpr c21; subst c21
       (try rw [← Nbq20.out] at hx491_0)
       (try rw [← Nbq20.out])
       rw [if_neg Bool.false_ne_true] at H
       have H' := am H
       clear H; go_wp2
       go_meet
       case rel => (try rw [← Nbq20.out]); exact ⟨_, (x1_2), sq, H', ⟨by have := HJ5.out; have := HK2.out; first | omega | exact Nat.le_refl _⟩, ⟨rq HO_5.out⟩, ⟨rq HO_6.out⟩, ⟨bel⟩⟩
      case rest =>
       clear HC19; (try clear c1); (try clear c2); (try clear p2); (try clear q2); (try clear hcv2); (try clear c4); (try clear p4); (try clear q4); (try clear hx4); (try clear qi4); (try clear p6); (try clear c9); (try clear c9b0); (try clear c9b1); (try clear c10); (try clear c10b0); (try clear c10b1); (try clear c14); (try clear c17); (try clear c17b0); (try clear c18); (try clear c18b0); (try clear c19); (try clear c20); (try clear q20); (try clear c21); (try clear c22); (try clear c22b0); (try clear c22b1); (try clear hcv23); (try clear hx485_0); (try clear hx486_0); (try clear hx491_0); (try clear hx491_1); (try clear p2); (try clear p4); (try clear p485); (try clear p486); (try clear p491); (try clear p6); (try clear q4); (try clear q485); (try clear q486); (try clear q491); obtain ⟨kq, x1_18, rfl, HA, HJ18, HO_5, HO_6, HB⟩ := hcut
       cases kq with
       | zero => exact absurd HA.out (by simp [impl_MachineWord.j2])
       | succ kj18 =>
        have H := HA.out; clear HA; simp only [impl_MachineWord.j2] at H; replace H := it H; obtain ⟨c24b0, H⟩ := H; replace H := it H; obtain ⟨c25b0, H⟩ := H
        have H' := am H
        clear H
        have p492 : 0 ≤ (x7_2 : Int) := of_decide_eq_true ad
        have q492 : x7_2 < (l0.length : Int) := of_decide_eq_true ad
        obtain ⟨ad492, A492_1, c492_1, e492, hx492_0, hx492_1, hl492_1, hi492_1⟩ := at_T45 HR0.out x7_2 p492 q492
        obtain rfl : ad491 = ad492 := (by injection e492)
        replace hx492_0 := kp HB.out hx492_0; replace hx492_1 := kp HB.out hx492_1; have HR492_1 := am hi492_1; have HC492_1 := am hl492_1; clear hi492_1 hl492_1; replace p492 := eq_true p492; replace q492 := eq_true q492; go_wp2
        go_loopg [1, 6, 7, 46] kj18 (fun kq v1 v6 v7 v46 w' => ∃ (x1_4 : Int) (x6_4 : List Int) (x7_4 : Int) (x46_4 : Int), v1 = .int .i64 x1_4 ∧ v7 = .int .i64 x7_4 ∧ v46 = .int .i64 x46_4 ∧ Aside0 (impl_MachineWord.l1 kq l0 x1_4 t482 x6_4 x7_4 ((rd_T45 l0 x7_2).f1) (((rd_T45 l0 x7_2).f1).length : Int) x46_4 = some r) ∧ Aside0 (kq ≤ kj18) ∧ Aside0 (Kd.R (Kd.int .i64) 3 w' w.heap.size (fun _ => True) v483 t482) ∧ Aside0 (Kd.R (Kd.int .u8) 5 w' w.heap.size (fun _ => True) v6 x6_4) ∧ Aside0 (Below w.heap.size w w'))
        case atStart => exact ⟨(x1_18), (x6_2), (x7_2), (0), sq, sq, sq, H', ⟨Nat.le_refl _⟩, ⟨rq HO_5.out⟩, ⟨rq HO_6.out⟩, ⟨bel⟩⟩
        case round =>
         clear H'; (try clear c1); (try clear c2); (try clear p2); (try clear q2); (try clear hcv2); (try clear c4); (try clear p4); (try clear q4); (try clear hx4); (try clear qi4); (try clear p6); (try clear c9); (try clear c9b0); (try clear c9b1); (try clear c10); (try clear c10b0); (try clear c10b1); (try clear c14); (try clear c17); (try clear c17b0); (try clear c18); (try clear c18b0); (try clear c19); (try clear c20); (try clear q20); (try clear c21); (try clear c22); (try clear c22b0); (try clear c22b1); (try clear hcv23); (try clear c24); (try clear c24b0); (try clear c25); (try clear c25b0); (try clear hx485_0); (try clear hx486_0); (try clear hx491_0); (try clear hx491_1); (try clear hx492_0); (try clear hx492_1); (try clear p2); (try clear p4); (try clear p485); (try clear p486); (try clear p491); (try clear p492); (try clear p6); (try clear q2); (try clear q20); (try clear q4); (try clear q485); (try clear q486); (try clear q491); (try clear q492); obtain ⟨x1_4, x6_4, x7_4, x46_4, rfl, rfl, rfl, HA, HK4, HO_5, HO_6, HB⟩ := hrel
         cases gk with
         | zero => exact absurd HA.out (by simp [impl_MachineWord.l1])
         | succ k4 =>
          have H := HA.out; clear HA; simp only [impl_MachineWord.l1] at H
          by_cases c26 : x46_4 < (((rd_T45 l0 x7_2).f1).length : Int)
          ·rw [if_pos c26] at H; have c26b0 := decide_eq_true c26; clear c26
           replace H := it H; obtain ⟨c27b0, H⟩ := H; replace H := it H; obtain ⟨c28b0, H⟩ := H; replace H := it H; obtain ⟨c29b0, H⟩ := H; replace H := it H; obtain ⟨c30b0, H⟩ := H
           by_cases c31 : x1_4 < (rd t482 ((rd_T49 ((rd_T45 l0 x7_2).f1) x46_4).f1))
           ·rw [if_pos c31] at H; have c31b0 := decide_eq_true c31; clear c31
            replace H := ip H; obtain ⟨c32, H⟩ := H; have LMc32 := Aside0.mk c32; clear c32; obtain ⟨y496, hy496⟩ : ∃ y_ : List Int, y_ = (x6_4 ++ [((rd_T49 ((rd_T45 l0 x7_2).f1) x46_4).f0) % 256]) := ⟨_, rfl⟩
            replace H : (impl_MachineWord.l0 k4 l0 x1_4 t482 y496 ((rd_T49 ((rd_T45 l0 x7_2).f1) x46_4).f1)) = some r := by first | (rw [hy496]; with_reducible exact H) | (have H2_ := bm H; rw [hy496]; with_reducible exact H2_) | (with_reducible exact bm H) | with_reducible exact H | (rw [hy496]; exact H) | exact H
            have Ny496 := am hy496; clear hy496
            have H' := am H
            clear H
            have p493 : 0 ≤ (x46_4 : Int) := of_decide_eq_true ad
            have q493 : x46_4 < (((rd_T45 l0 x7_2).f1).length : Int) := of_decide_eq_true ad
            obtain ⟨ad493, e493, hx493_0, hx493_1⟩ := at_T49 HR492_1.out x46_4 p493 q493; cases e493; replace hx493_0 := kp HB.out hx493_0; replace hx493_1 := kp HB.out hx493_1; replace p493 := eq_true p493; replace q493 := eq_true q493
            go_wp2_with (first | ((with_reducible refine gate_dst (N := 9) rfl ?_); refine bx 9 (cs := #[.int .i64 0, .int .i64 0]) (t := 49) ?_; intro gb494 hg w33 hbox hb; replace HO_5 := am (Kd.R_below (rq HO_5.out) hb); replace HO_6 := am (Kd.R_below (rq HO_6.out) hb); have BK494 := am (hbox); have GW494 := am ((b16_ : w.heap.size ≤ gb494)); have GE494 := am ((b16_ : w.heap.size ≤ gb494)); replace HB := am (below_step bel hb); clear hb hbox hg; have ⟨hcz34_0, hcz34_1, hfz34_0, hfz34_1⟩ := b2c BK494.out; obtain ⟨Ao35, co35, eo35⟩ := Kd.R_slice HO_5.out; subst eo35; have p495 : 0 ≤ (((rd_T49 ((rd_T45 l0 x7_2).f1) x46_4).f1) : Int) := of_decide_eq_true ad; have q495 : ((rd_T49 ((rd_T45 l0 x7_2).f1) x46_4).f1) < (t482.length : Int) := of_decide_eq_true ad; obtain ⟨ad495, e495, hx495_0⟩ := Kd.at_int (Kd.R_reads' HO_5.out).2.2 ((rd_T49 ((rd_T45 l0 x7_2).f1) x46_4).f1) p495 q495; cases e495; have hn495_0 : ad495.block ≠ gb494 := b41_; have hn495_1 : ad495.block ≠ gb494 := b41_; replace hx495_0 := (cell_far (p := ⟨gb494, 0, none⟩) (by first | (rw [add_block]; exact hn495_0) | (show (Addr.add _ _).block ≠ _; rw [add_block]; exact hn495_0) | exact hn495_0) (.int .i64 ((rd_T49 ((rd_T45 l0 x7_2).f1) x46_4).f0))).trans hx495_0; replace hx495_0 := (cell_far (p := ⟨gb494, 1, none⟩) (by first | (rw [add_block]; exact hn495_1) | (show (Addr.add _ _).block ≠ _; rw [add_block]; exact hn495_1) | exact hn495_1) (.int .i64 ((rd_T49 ((rd_T45 l0 x7_2).f1) x46_4).f1))).trans hx495_0; clear hn495_0; clear hn495_1; replace p495 := eq_true p495; replace q495 := eq_true q495) | ((with_reducible refine gate_builtin (b := .append) (xs := #[.tmp 57, .tmp 61]) rfl ?_); at_builtin; refine Kd.R_append (Kd.int .u8) (w0 := w) w.heap.size rfl (.tmp 57) (.tmp 61) 32 5 (.int .u8 0) 1 rfl Try.underlying32 info5 rfl (by decide) (by omega) u6 x6_4 (((rd_T49 ((rd_T45 l0 x7_2).f1) x46_4).f0) % 256) [.int .u8 (((rd_T49 ((rd_T45 l0 x7_2).f1) x46_4).f0) % 256)] (fun _ => True) (fun _ => False) rfl (by first | (go_simp; done) | (go_simp; rfl)) ?aP (fun _ hk => hk.elim) ?aF ?aO ?aB ?aS ?aL ?_; (case aP => exact rfl); (case aB => exact (bel1 GE494.out)); (case aF => exact (fun _ _ => trivial)); (case aO => exact (rq (Kd.R_mono (Kd.R_far (p := ⟨gb494, 1, none⟩) (Kd.R_far (p := ⟨gb494, 0, none⟩) (Kd.R_types HO_6.out BK494.out (by decide)) (fun _ hk => hk.2) (.int .i64 ((rd_T49 ((rd_T45 l0 x7_2).f1) x46_4).f0))) (fun _ hk => hk.2) (.int .i64 ((rd_T49 ((rd_T45 l0 x7_2).f1) x46_4).f1))) (fun _ hk => trivial)))); (case aS => exact (below_size (bel1 GE494.out))); (case aL => have := LMc32.out; omega); intro v497 w36 ho hb hg hat; rw [← Ny496.out] at ho; replace HO_5 := am (Kd.R_over' (rq ((Kd.R_mono (Kd.R_far (p := ⟨gb494, 1, none⟩) (Kd.R_far (p := ⟨gb494, 0, none⟩) (Kd.R_types HO_5.out BK494.out (by decide)) (fun _ hk => hk.2) (.int .i64 ((rd_T49 ((rd_T45 l0 x7_2).f1) x46_4).f0))) (fun _ hk => hk.2) (.int .i64 ((rd_T49 ((rd_T45 l0 x7_2).f1) x46_4).f1))) (fun _ h_ => h_.1)))) (Kd.R_typed (rq ((Kd.R_mono (Kd.R_far (p := ⟨gb494, 1, none⟩) (Kd.R_far (p := ⟨gb494, 0, none⟩) (Kd.R_types HO_6.out BK494.out (by decide)) (fun _ hk => hk.2) (.int .i64 ((rd_T49 ((rd_T45 l0 x7_2).f1) x46_4).f0))) (fun _ hk => hk.2) (.int .i64 ((rd_T49 ((rd_T45 l0 x7_2).f1) x46_4).f1))) (fun _ h_ => h_.1))))) (by decide) hg); replace BK494 := am (blk_grown (g := gb494) (o := .cells #[.int .i64 ((rd_T49 ((rd_T45 l0 x7_2).f1) x46_4).f0), .int .i64 ((rd_T49 ((rd_T45 l0 x7_2).f1) x46_4).f1)] 49 (0, 0)) (by (with_reducible repeat (first | refine blk_drewN ?_ _ | refine blk_drew ?_ | refine blk_alloc ?_ _)); refine blk_put (cs := #[.int .i64 ((rd_T49 ((rd_T45 l0 x7_2).f1) x46_4).f0), .int .i64 0]) ?_ 1 _ rfl; (with_reducible repeat (first | refine blk_drewN ?_ _ | refine blk_drew ?_ | refine blk_alloc ?_ _)); refine blk_put (cs := #[.int .i64 0, .int .i64 0]) ?_ 0 _ rfl; (with_reducible repeat (first | refine blk_drewN ?_ _ | refine blk_drew ?_ | refine blk_alloc ?_ _)); exact BK494.out) hg (Kd.R_ne HO_6.out BK494.out (by decide))); replace HB := am (hb); have HO498 := am (ho); clear HO_6; clear ho hb hg hat; have hcz37_0 : w36.cell? ⟨gb494, 0, none⟩ = some (.int .i64 ((rd_T49 ((rd_T45 l0 x7_2).f1) x46_4).f0)) := bd BK494.out 0; have hcz37_1 : w36.cell? ⟨gb494, 1, none⟩ = some (.int .i64 ((rd_T49 ((rd_T45 l0 x7_2).f1) x46_4).f1)) := bd BK494.out 1; have hfz37_0 := bf BK494.out 0; have hfz37_1 := bf BK494.out 1))
            go_roundg k4
            case measure => have := HJ5.out; have := HK2.out; have := HJ18.out; have := HK4.out; omega
            case rel => exact ⟨(x1_4), (y496), ((rd_T49 ((rd_T45 l0 x7_2).f1) x46_4).f1), sq, sq, H', ⟨b79_⟩, ⟨rq HO_5.out⟩, ⟨rq HO498.out⟩, ⟨bel1 GE494.out⟩⟩
           rw [if_neg c31] at H; have c31b0 := decide_eq_false c31; clear c31
           have H' := am H
           clear H
           have p493 : 0 ≤ (x46_4 : Int) := of_decide_eq_true ad
           have q493 : x46_4 < (((rd_T45 l0 x7_2).f1).length : Int) := of_decide_eq_true ad
           obtain ⟨ad493, e493, hx493_0, hx493_1⟩ := at_T49 HR492_1.out x46_4 p493 q493; cases e493; replace hx493_0 := kp HB.out hx493_0; replace hx493_1 := kp HB.out hx493_1; replace p493 := eq_true p493; replace q493 := eq_true q493
           go_wp2_with (first | ((with_reducible refine gate_dst (N := 9) rfl ?_); refine bx 9 (cs := #[.int .i64 0, .int .i64 0]) (t := 49) ?_; intro gb494 hg w38 hbox hb; replace HO_5 := am (Kd.R_below (rq HO_5.out) hb); replace HO_6 := am (Kd.R_below (rq HO_6.out) hb); have BK494 := am (hbox); have GW494 := am ((b16_ : w.heap.size ≤ gb494)); have GE494 := am ((b16_ : w.heap.size ≤ gb494)); replace HB := am (below_step bel hb); clear hb hbox hg; have ⟨hcz39_0, hcz39_1, hfz39_0, hfz39_1⟩ := b2c BK494.out; obtain ⟨Ao40, co40, eo40⟩ := Kd.R_slice HO_5.out; subst eo40; have p495 : 0 ≤ (((rd_T49 ((rd_T45 l0 x7_2).f1) x46_4).f1) : Int) := of_decide_eq_true ad; have q495 : ((rd_T49 ((rd_T45 l0 x7_2).f1) x46_4).f1) < (t482.length : Int) := of_decide_eq_true ad; obtain ⟨ad495, e495, hx495_0⟩ := Kd.at_int (Kd.R_reads' HO_5.out).2.2 ((rd_T49 ((rd_T45 l0 x7_2).f1) x46_4).f1) p495 q495; cases e495; have hn495_0 : ad495.block ≠ gb494 := b41_; have hn495_1 : ad495.block ≠ gb494 := b41_; replace hx495_0 := (cell_far (p := ⟨gb494, 0, none⟩) (by first | (rw [add_block]; exact hn495_0) | (show (Addr.add _ _).block ≠ _; rw [add_block]; exact hn495_0) | exact hn495_0) (.int .i64 ((rd_T49 ((rd_T45 l0 x7_2).f1) x46_4).f0))).trans hx495_0; replace hx495_0 := (cell_far (p := ⟨gb494, 1, none⟩) (by first | (rw [add_block]; exact hn495_1) | (show (Addr.add _ _).block ≠ _; rw [add_block]; exact hn495_1) | exact hn495_1) (.int .i64 ((rd_T49 ((rd_T45 l0 x7_2).f1) x46_4).f1))).trans hx495_0; clear hn495_0; clear hn495_1; replace p495 := eq_true p495; replace q495 := eq_true q495; have p499 : 0 ≤ (((rd_T49 ((rd_T45 l0 x7_2).f1) x46_4).f1) : Int) := of_decide_eq_true ad; have q499 : ((rd_T49 ((rd_T45 l0 x7_2).f1) x46_4).f1) < (t482.length : Int) := of_decide_eq_true ad; obtain ⟨ad499, e499, hx499_0⟩ := Kd.at_int (Kd.R_reads' HO_5.out).2.2 ((rd_T49 ((rd_T45 l0 x7_2).f1) x46_4).f1) p499 q499; obtain rfl : ad495 = ad499 := (by injection e499); have hn499_0 : ad495.block ≠ gb494 := b41_; have hn499_1 : ad495.block ≠ gb494 := b41_; replace hx499_0 := (cell_far (p := ⟨gb494, 0, none⟩) (by first | (rw [add_block]; exact hn499_0) | (show (Addr.add _ _).block ≠ _; rw [add_block]; exact hn499_0) | exact hn499_0) (.int .i64 ((rd_T49 ((rd_T45 l0 x7_2).f1) x46_4).f0))).trans hx499_0; replace hx499_0 := (cell_far (p := ⟨gb494, 1, none⟩) (by first | (rw [add_block]; exact hn499_1) | (show (Addr.add _ _).block ≠ _; rw [add_block]; exact hn499_1) | exact hn499_1) (.int .i64 ((rd_T49 ((rd_T45 l0 x7_2).f1) x46_4).f1))).trans hx499_0; clear hn499_0; clear hn499_1; replace p499 := eq_true p499; replace q499 := eq_true q499))
           go_roundg k4
           case measure => have := HJ5.out; have := HK2.out; have := HJ18.out; have := HK4.out; omega
           case rel => exact ⟨(wrap64 (x1_4 - (rd t482 ((rd_T49 ((rd_T45 l0 x7_2).f1) x46_4).f1)))), (x6_4), (x7_4), (wrap64 (x46_4 + 1)), sq, sq, sq, H', ⟨b79_⟩, ⟨rq (Kd.R_mono (Kd.R_far (p := ⟨gb494, 1, none⟩) (Kd.R_far (p := ⟨gb494, 0, none⟩) (Kd.R_types HO_5.out BK494.out (by decide)) (fun _ hk => hk.2) (.int .i64 ((rd_T49 ((rd_T45 l0 x7_2).f1) x46_4).f0))) (fun _ hk => hk.2) (.int .i64 ((rd_T49 ((rd_T45 l0 x7_2).f1) x46_4).f1))) (fun _ hk => trivial))⟩, ⟨rq (Kd.R_mono (Kd.R_far (p := ⟨gb494, 1, none⟩) (Kd.R_far (p := ⟨gb494, 0, none⟩) (Kd.R_types HO_6.out BK494.out (by decide)) (fun _ hk => hk.2) (.int .i64 ((rd_T49 ((rd_T45 l0 x7_2).f1) x46_4).f0))) (fun _ hk => hk.2) (.int .i64 ((rd_T49 ((rd_T45 l0 x7_2).f1) x46_4).f1))) (fun _ hk => trivial))⟩, ⟨bel1 GE494.out⟩⟩
          rw [if_neg c26] at H; have c26b0 := decide_eq_false c26; clear c26
          have H' := am H
          clear H; go_wp2
          go_roundg k4
          case measure => have := HJ5.out; have := HK2.out; have := HJ18.out; have := HK4.out; omega
          case rel => exact ⟨(x1_4), (x6_4), (x7_4), sq, sq, H', ⟨b79_⟩, ⟨rq HO_5.out⟩, ⟨rq HO_6.out⟩, ⟨bel⟩⟩
 replace c4 := Bool.eq_false_iff.mpr c4; subst c4
 rw [if_neg Bool.false_ne_true] at H
 obtain rfl := Option.some.inj H; go_enter Try.func19, Try.ntmps19
 go_wp2_with (first | ((with_reducible refine gate_callee (f := 20) rfl ?_); refine gl 11 Try.func20 #[.slice A0 l0.length c0] ?_; (with_reducible refine (impl_MachineOk.calls k _ _ l0 false _ ?side1 ?side2 A3.out).mono ?_); (case side1 => repeat (first | exact HR0.out | (with_reducible refine Kd.C_alloc ?_ _) | (with_reducible refine Kd.C_drewN ?_ _) | (with_reducible refine Kd.C_drew ?_))); (case side2 => exact HC0.out); rintro e w41 ⟨rfl, hb⟩; refine ⟨_, rfl, ?_⟩; replace HB := am (below_step bel hb); clear hb))
 go_ret
 exact ⟨eq_, bel⟩

/-! ### impl_MachineCount: function 21 -/
def impl_MachineCount.f (k : Nat) (l0 : List (S45)) : Option (Int) := (impl_MachineOk.f k l0).bind fun t500 => (if t500 = true then ((impl_counts.f k l0).bind fun t501 => (if 0 < (t501.length : Int) then (some (rd t501 0)) else (none))) else (some 0))
theorem impl_MachineCount.calls (k : Nat) (A0 : Option Addr) (c0 : Nat) (l0 : List (S45)) (r : Int) (w : World) (hr0 : Kd.C k45 w A0 l0.length l0) (hc0 : l0.length ≤ c0) (h : impl_MachineCount.f k l0 = some r) :
  Calls Try.prog 21 #[.slice A0 l0.length c0] w fun e w' => e = .returned (.int .i64 r) ∧ Below w.heap.size w w' := by
 have HR0 := am hr0; have HC0 := am hc0; clear hr0 hc0; have HB := am (Below.refl w.heap.size w)
 have H : ((impl_MachineOk.f k l0).bind fun t500 => (if t500 = true then ((impl_counts.f k l0).bind fun t501 => (if 0 < (t501.length : Int) then (some (rd t501 0)) else (none))) else (some 0))) = some r := h
 clear h; replace H := bs H; obtain ⟨t500, A20, H⟩ := H; (try dsimp only at H); have A2 := Aside0.mk A20; clear A20
 by_cases c3 : t500 = true
 ·subst c3
  rw [if_pos rfl] at H
  replace H := bs H; obtain ⟨t501, A40, H⟩ := H; (try dsimp only at H); have A4 := Aside0.mk A40; clear A40
  replace H := ip H; obtain ⟨c5, H⟩ := H; have c5b0 := decide_eq_true c5
  have c5b1 : decide (0 < t501.length) = true := decide_eq_true (by omega)
  clear c5; obtain rfl := Option.some.inj H; go_enter Try.func21, Try.ntmps21
  go_wp2_with (first | ((with_reducible refine gate_callee (f := 20) rfl ?_); refine gl 4 Try.func20 #[.slice A0 l0.length c0] ?_; (with_reducible refine (impl_MachineOk.calls k _ _ l0 true _ ?side1 ?side2 A2.out).mono ?_); (case side1 => repeat (first | exact HR0.out | (with_reducible refine Kd.C_alloc ?_ _) | (with_reducible refine Kd.C_drewN ?_ _) | (with_reducible refine Kd.C_drew ?_))); (case side2 => exact HC0.out); rintro e w6 ⟨rfl, hb⟩; refine ⟨_, rfl, ?_⟩; replace HB := am (below_step bel hb); clear hb) | ((with_reducible refine gate_callee (f := 45) rfl ?_); refine gl 7 Try.func45 #[.slice A0 l0.length c0] ?_; (with_reducible refine (impl_counts.calls k _ _ l0 t501 _ ?side1 ?side2 A4.out).mono ?_); (case side1 => exact cq (Kd.C_below HR0.out HB.out)); (case side2 => exact HC0.out); rintro e w7 ⟨v502, rfl, ho0, hb⟩; refine ⟨_, rfl, ?_⟩; have HO503 := am (Kd.R_lower ho0 (below_size bel)); replace HB := am (below_step bel hb); clear hb; (try clear ho0); obtain ⟨Ao8, co8, eo8⟩ := Kd.R_slice HO503.out; subst eo8; have p504 : 0 ≤ (0 : Int) := (by omega); have q504 : 0 < (t501.length : Int) := of_decide_eq_true ad; obtain ⟨ad504, e504, hx504_0⟩ := Kd.at_int (Kd.R_reads' HO503.out).2.2 0 p504 q504; cases e504; have qi504 : (0 < t501.length) = True := eq_true (by omega); (try rw [show ((0 : Int)).toNat = 0 from rfl] at hx504_0); (try rw [Addr.add_zero'] at hx504_0); replace p504 := eq_true p504; replace q504 := eq_true q504))
  go_ret
  exact ⟨eq_, bel⟩
 replace c3 := Bool.eq_false_iff.mpr c3; subst c3
 rw [if_neg Bool.false_ne_true] at H
 obtain rfl := Option.some.inj H; go_enter Try.func21, Try.ntmps21
 go_wp2_with (first | ((with_reducible refine gate_callee (f := 20) rfl ?_); refine gl 4 Try.func20 #[.slice A0 l0.length c0] ?_; (with_reducible refine (impl_MachineOk.calls k _ _ l0 false _ ?side1 ?side2 A2.out).mono ?_); (case side1 => repeat (first | exact HR0.out | (with_reducible refine Kd.C_alloc ?_ _) | (with_reducible refine Kd.C_drewN ?_ _) | (with_reducible refine Kd.C_drew ?_))); (case side2 => exact HC0.out); rintro e w9 ⟨rfl, hb⟩; refine ⟨_, rfl, ?_⟩; replace HB := am (below_step bel hb); clear hb))
 go_ret
 exact ⟨eq_, bel⟩
-- shrunk

/-! ### laws_FnMachineOf: function 4 -/
mutual
def laws_FnMachineOf.j0 : Nat → List ByteArray → List (S45) → Bool → List (S45) → Bool → Bool → Option (Bool)
 | 0, _, _, _, _, _, _ => none
 | k + 1, x3, x4, x5, x6, x7, x38 => if x38 = true then (if (x5 == x7) = true then ((laws_mdMachine.f k x4 x6).bind fun t517 => (some t517)) else (some false)) else (laws_FnMachineOf.l0 k x3 x4 0)
def laws_FnMachineOf.l0 : Nat → List ByteArray → List (S45) → Int → Option (Bool)
 | 0, _, _, _ => none
 | k + 1, x3, x4, x8 => if x8 < (x3.length : Int) then (if 0 ≤ x8 then ((impl_MachineKnows.f k x4 (rdOf ByteArray.empty x3 x8)).bind fun t519 => (if t519 = true then ((impl_MachineRank.f k x4 (rdOf ByteArray.empty x3 x8)).bind fun t521 => (if t521 = x8 then ((impl_MachineWord.f k x4 x8).bind fun t522 => (if t522.toList = (rdOf ByteArray.empty x3 x8).toList then (laws_FnMachineOf.l0 k x3 x4 (wrap64 (x8 + 1))) else (some false))) else (some false))) else (some false))) else (none)) else (laws_FnMachineOf.l1 k x3 x4 0)
def laws_FnMachineOf.l1 : Nat → List ByteArray → List (S45) → Int → Option (Bool)
 | 0, _, _, _ => none
 | k + 1, x3, x4, x9 => if x9 < (x4.length : Int) then (laws_FnMachineOf.l2 k x3 x4 x9 0) else ((impl_MachineOk.f k x4).bind fun t524 => (if t524 = true then ((impl_MachineCount.f k x4).bind fun t525 => (some (t525 == (x3.length : Int)))) else (some false)))
def laws_FnMachineOf.l2 : Nat → List ByteArray → List (S45) → Int → Int → Option (Bool)
 | 0, _, _, _, _ => none
 | k + 1, x3, x4, x9, x10 => if x10 < x9 then (if 0 ≤ x9 then (if x9 ≤ (wrap64 (x9 + 1)) then (if (wrap64 (x9 + 1)) ≤ (x4.length : Int) then (if 0 ≤ x10 then (if x10 ≤ (wrap64 (x10 + 1)) then (if (wrap64 (x10 + 1)) ≤ (x4.length : Int) then ((laws_mdMachine.f k ((x4.take ((wrap64 (x9 + 1)) : Int).toNat).drop (x9 : Int).toNat) ((x4.take ((wrap64 (x10 + 1)) : Int).toNat).drop (x10 : Int).toNat)).bind fun t534 => (if t534 = true then (some false) else (laws_FnMachineOf.l2 k x3 x4 x9 (wrap64 (x10 + 1))))) else (none)) else (none)) else (none)) else (none)) else (none)) else (none)) else (laws_FnMachineOf.l1 k x3 x4 (wrap64 (x9 + 1)))
end
def laws_FnMachineOf.f (k : Nat) (l0 : List Int) : Option (Bool) := if (l0.length : Int) > 1048576 then (some true) else ((spec_DrawMachineOf.f k l0).bind fun t505 => ((impl_MachineOf.f k t505).bind fun bt508 => ((spec_MachineOf.f k t505).bind fun bt512 => (if (bt508.2 != bt512.2) = true then (laws_FnMachineOf.j0 k t505 bt508.1 bt508.2 bt512.1 bt512.2 true) else ((laws_mdMachine.f k bt508.1 bt512.1).bind fun t516 => (if t516 = true then (laws_FnMachineOf.j0 k t505 bt508.1 bt508.2 bt512.1 bt512.2 (!bt508.2)) else (laws_FnMachineOf.j0 k t505 bt508.1 bt508.2 bt512.1 bt512.2 true)))))))
def laws_FnMachineOf.T11 : Bool × List (List Nat × List Nat) := (true, [([], []), ([], []), ([], []), ([1, 2], [1, 2]), ([3], [3]), ([0, 4], [0, 4]), ([5], [5]), ([6, 5], [6]), ([7], [7]), ([7], [7]), ([7], [7]), ([9, 10, 7], [7, 9, 10]), ([11, 7], [7, 11]), ([8, 12, 7, 7], [7, 8, 12]), ([7], [7]), ([13, 14, 7], [7, 13, 14]), ([7, 15], [7, 15]), ([16, 13], [16]), ([17], [17]), ([17], [17]), ([18, 19, 17, 17], [17, 18, 19]), ([17], [17]), ([17], [17]), ([21, 22, 17], [17, 21, 22]), ([23, 17], [17, 23]), ([20, 24, 17], [17, 20, 24]), ([17, 25], [17, 25])])
def laws_FnMachineOf.B11 : List Nat := [0, 0, 0, 6, 14, 31, 63, 127, 255, 255, 255, 1791, 3839, 8191, 255, 32767, 65535, 131071, 262143, 262143, 1048575, 262143, 262143, 6553599, 14942207, 33554431, 67108863]
theorem laws_FnMachineOf.tab11 : rtab .any (opsOf Try.f4 11) = laws_FnMachineOf.T11 := by kernel_rfl
theorem laws_FnMachineOf.bits11 : waitsOk laws_FnMachineOf.T11.2 laws_FnMachineOf.B11 = true := by kernel_rfl
def laws_FnMachineOf.T19 : Bool × List (List Nat × List Nat) := (true, [([], []), ([], []), ([], []), ([2], [2]), ([0, 1, 3], [0, 1, 3]), ([], []), ([], []), ([], []), ([7], [7]), ([5, 6, 8], [5, 6, 8]), ([4, 9], [4, 9])])
def laws_FnMachineOf.B19 : List Nat := [0, 0, 0, 4, 15, 0, 0, 0, 128, 480, 1023]
theorem laws_FnMachineOf.tab19 : rtab .any (opsOf Try.f4 19) = laws_FnMachineOf.T19 := by kernel_rfl
theorem laws_FnMachineOf.bits19 : waitsOk laws_FnMachineOf.T19.2 laws_FnMachineOf.B19 = true := by kernel_rfl
theorem laws_FnMachineOf.calls (k : Nat) (A0 : Option Addr) (c0 : Nat) (l0 : List Int) (r : Bool) (w : World) (hr0 : Kd.C (Kd.int .u8) w A0 l0.length l0) (hc0 : l0.length ≤ c0) (h : laws_FnMachineOf.f k l0 = some r) (ist_ : r = true := by exact rfl) :
  Calls Try.prog 4 #[.slice A0 l0.length c0] w fun e w' => e = .returned (.bool r) ∧ Below w.heap.size w w' := by
 have HR0 := am hr0; have HC0 := am hc0; clear hr0 hc0; have HB := am (Below.refl w.heap.size w)
 have H : (if (l0.length : Int) > 1048576 then (some true) else ((spec_DrawMachineOf.f k l0).bind fun t505 => ((impl_MachineOf.f k t505).bind fun bt508 => ((spec_MachineOf.f k t505).bind fun bt512 => (if (bt508.2 != bt512.2) = true then (laws_FnMachineOf.j0 k t505 bt508.1 bt508.2 bt512.1 bt512.2 true) else ((laws_mdMachine.f k bt508.1 bt512.1).bind fun t516 => (if t516 = true then (laws_FnMachineOf.j0 k t505 bt508.1 bt508.2 bt512.1 bt512.2 (!bt508.2)) else (laws_FnMachineOf.j0 k t505 bt508.1 bt508.2 bt512.1 bt512.2 true)))))))) = some r := h
 clear h
 by_cases c2 : (l0.length : Int) > 1048576
 ·rw [if_pos c2] at H; have c2b0 := decide_eq_true c2
  have c2b1 : decide (1048576 < l0.length) = true := decide_eq_true (by omega)
  clear c2; obtain rfl := Option.some.inj H; go_enter Try.func4, Try.ntmps4; go_wp2; go_ret
  exact ⟨eq_, bel⟩
 rw [if_neg c2] at H; have c2b0 := decide_eq_false c2
 have c2b1 : decide (1048576 < l0.length) = false := decide_eq_false (by omega)
 clear c2; replace H := bs H; obtain ⟨t505, A30, H⟩ := H; (try dsimp only at H); have A3 := Aside0.mk A30; clear A30; replace H := bs H; obtain ⟨⟨t508, t509⟩, A40, H⟩ := H; dsimp only at H; have A4 := Aside0.mk A40; clear A40; replace H := bs H; obtain ⟨⟨t512, t513⟩, A50, H⟩ := H; dsimp only at H; have A5 := Aside0.mk A50; clear A50; have HC6 := am H; clear H; go_enter Try.func4, Try.ntmps4
 go_upto_region 6 with (first | ((with_reducible refine gate_callee (f := 15) rfl ?_); refine gl 15 Try.func15 #[.slice A0 l0.length c0] ?_; (with_reducible refine (spec_DrawMachineOf.calls k _ _ l0 t505 _ ?side1 ?side2 A3.out).mono ?_); (case side1 => repeat (first | exact HR0.out | (with_reducible refine Kd.C_alloc ?_ _) | (with_reducible refine Kd.C_drewN ?_ _) | (with_reducible refine Kd.C_drew ?_))); (case side2 => exact HC0.out); rintro e w7 ⟨v506, rfl, ho0, hb⟩; refine ⟨_, rfl, ?_⟩; have HO507 := am (Kd.R_lower ho0 (below_size bel)); replace HB := am (below_step bel hb); clear hb; (try clear ho0); obtain ⟨Ao8, co8, eo8⟩ := Kd.R_slice HO507.out; subst eo8) | ((with_reducible refine gate_callee (f := 9) rfl ?_); refine gl 18 Try.func9 #[.slice Ao8 t505.length co8] ?_; (with_reducible refine (impl_MachineOf.calls k _ _ t505 t508 t509 _ ?side1 ?side2 A4.out).mono ?_); (case side1 => exact cq (Kd.R_reads' HO507.out).2.2); (case side2 => exact (Kd.R_reads' HO507.out).2.1); rintro e w9 ⟨v510, rfl, ho0, hb⟩; refine ⟨_, rfl, ?_⟩; replace HO507 := am (Kd.R_below (rq HO507.out) hb); have HO511 := am (Kd.S_lower ho0 (below_size bel)); replace HB := am (below_step bel hb); clear hb; (try clear ho0)) | ((with_reducible refine gate_callee (f := 7) rfl ?_); refine gl 23 Try.func7 #[.slice Ao8 t505.length co8] ?_; (with_reducible refine (spec_MachineOf.calls k _ _ t505 t512 t513 _ ?side1 ?side2 A5.out).mono ?_); (case side1 => exact cq (Kd.R_reads' HO507.out).2.2); (case side2 => exact (Kd.R_reads' HO507.out).2.1); rintro e w10 ⟨v514, rfl, ho0, hb⟩; refine ⟨_, rfl, ?_⟩; replace HO507 := am (Kd.R_below (rq HO507.out) hb); have HO515 := am (Kd.S_lower (Kd.S_new' ho0 (Kd.S_lt (by (with_reducible repeat (first | apply Kd.S_alloc | apply Kd.S_drewN | apply Kd.S_drew)); exact HO511.out))) (below_size bel)); replace HO511 := am (Kd.S_elder' (by (with_reducible repeat (first | apply Kd.S_alloc | apply Kd.S_drewN | apply Kd.S_drew)); exact HO511.out) (Kd.S_base ho0) hb); replace HB := am (below_step bel hb); clear hb; (try clear ho0)))
 (try simp only [Act.put, List.setIfInBounds_toArray, List.set_cons_zero, List.set_cons_succ])
 go_cut [38] (fun v38 wc => ∃ (kq : Nat) (x38_5 : Bool), v38 = .bool x38_5 ∧ Aside0 (laws_FnMachineOf.j0 kq t505 t508 t509 t512 t513 x38_5 = some r) ∧ Aside0 (kq ≤ k) ∧ Aside0 (Kd.R Kd.string 9 wc w.heap.size (fun _ => True) (.slice Ao8 t505.length co8) t505) ∧ Aside0 (Kd.S k45 45 wc w.heap.size (fun k_ => some k_ ≠ (v514 : Value).ownBlock) v510 t508) ∧ Aside0 (Kd.S k45 45 wc w.heap.size (fun k_ => some k_ ≠ (v510 : Value).ownBlock) v514 t512) ∧ Aside0 (Below w.heap.size w wc))
 case first =>
  have H := HC6.out; clear HC6
  by_cases c11 : (t509 != t513) = true
  ·rw [if_pos c11] at H
   have c11b0 : (t509 != t513) = true := c11
   (try (have c11b1 : decide (t509 = t513) = false := by simpa using c11))
   (try (have c11b2 : (t509 == t513) = false := by simpa using c11))
   (try (have c11b3 : ¬ (t509 = t513) := by simpa using c11))
   clear c11
   (first | rw [c11b0] | (simp only [i64_w, i32_w]; rw [c11b0]) | skip)
   have H' := am H
   clear H; go_wp2
   go_meet
   case rel => exact ⟨_, (true), sq, H', ⟨b76_⟩, ⟨rq HO507.out⟩, ⟨b56_⟩, ⟨b57_⟩, ⟨bel⟩⟩
  rw [if_neg c11] at H
  have c11b0 : (t509 != t513) = false := by simpa using c11
  (try (have c11b1 : decide (t509 = t513) = true := by simpa using c11))
  (try (have c11b2 : (t509 == t513) = true := by simpa using c11))
  clear c11
  (first | rw [c11b0] | (simp only [i64_w, i32_w]; rw [c11b0]) | skip)
  replace H := bs H; obtain ⟨t516, A120, H⟩ := H; (try dsimp only at H); have A12 := Aside0.mk A120; clear A120
  by_cases c13 : t516 = true
  ·subst c13
   rw [if_pos rfl] at H
   have H' := am H
   clear H; obtain ⟨Ao14, co14, eo14⟩ := Kd.S_slice HO511.out; subst eo14; obtain ⟨Ao15, co15, eo15⟩ := Kd.S_slice HO515.out; subst eo15
   go_wp2_with (first | (go_at_call 16; (with_reducible refine (laws_mdMachine.calls k _ _ t508 _ _ t512 true _ ?side1 ?side2 ?side3 ?side4 A12.out).mono ?_); (case side1 => exact cq (Kd.S_reads' HO511.out).2.2); (case side2 => exact (Kd.S_reads' HO511.out).2.1); (case side3 => exact cq (Kd.S_reads' HO515.out).2.2); (case side4 => exact (Kd.S_reads' HO515.out).2.1); rintro e w' ⟨rfl, ⟨nd, rfl⟩⟩))
   go_meet
   case rel => exact ⟨_, (!t509), sq, H', ⟨b76_⟩, ⟨rq HO507.out⟩, ⟨b56_⟩, ⟨b57_⟩, ⟨bel⟩⟩
  replace c13 := Bool.eq_false_iff.mpr c13; subst c13
  rw [if_neg Bool.false_ne_true] at H
  have H' := am H
  clear H; obtain ⟨Ao16, co16, eo16⟩ := Kd.S_slice HO511.out; subst eo16; obtain ⟨Ao17, co17, eo17⟩ := Kd.S_slice HO515.out; subst eo17
  go_wp2_with (first | (go_at_call 16; (with_reducible refine (laws_mdMachine.calls k _ _ t508 _ _ t512 false _ ?side1 ?side2 ?side3 ?side4 A12.out).mono ?_); (case side1 => exact cq (Kd.S_reads' HO511.out).2.2); (case side2 => exact (Kd.S_reads' HO511.out).2.1); (case side3 => exact cq (Kd.S_reads' HO515.out).2.2); (case side4 => exact (Kd.S_reads' HO515.out).2.1); rintro e w' ⟨rfl, ⟨nd, rfl⟩⟩))
  go_meet
  case rel => exact ⟨_, (true), sq, H', ⟨b76_⟩, ⟨rq HO507.out⟩, ⟨b56_⟩, ⟨b57_⟩, ⟨bel⟩⟩
 case rest =>
  clear HC6; (try clear c1); (try clear c2); (try clear c2b0); (try clear c2b1); (try clear p2); (try clear c4); (try clear c7); (try clear c9); (try clear c11); (try clear c11b0); (try clear c11b1); (try clear c11b2); (try clear c13); (try clear c15); obtain ⟨kq, x38_5, rfl, HA, HJ5, HO_3, HO_4, HO_6, HB⟩ := hcut
  cases kq with
  | zero => exact absurd HA.out (by simp [laws_FnMachineOf.j0])
  | succ kj5 =>
   have H := HA.out; clear HA; simp only [laws_FnMachineOf.j0] at H
   by_cases c18 : x38_5 = true
   ·subst c18
    rw [if_pos rfl] at H
    by_cases c19 : (t509 == t513) = true
    ·rw [if_pos c19] at H
     have c19b0 : (t509 == t513) = true := c19
     (try (have c19b1 : decide (t509 = t513) = true := by simpa using c19))
     (try (have c19b2 : (t509 == t513) = true := by simpa using c19))
     clear c19; replace H := bs H; obtain ⟨t517, A200, H⟩ := H; (try dsimp only at H); have A20 := Aside0.mk A200; clear A200; obtain rfl := Option.some.inj H; obtain ⟨Ao21, co21, eo21⟩ := Kd.S_slice HO_4.out; subst eo21; obtain ⟨Ao22, co22, eo22⟩ := Kd.S_slice HO_6.out; subst eo22
     go_wp2_with (first | (go_at_call 16; (with_reducible refine (laws_mdMachine.calls kj5 _ _ t508 _ _ t512 t517 _ ?side1 ?side2 ?side3 ?side4 A20.out).mono ?_); (case side1 => exact cq (Kd.S_reads' HO_4.out).2.2); (case side2 => exact (Kd.S_reads' HO_4.out).2.1); (case side3 => exact cq (Kd.S_reads' HO_6.out).2.2); (case side4 => exact (Kd.S_reads' HO_6.out).2.1); rintro e w' ⟨rfl, ⟨nd, rfl⟩⟩))
     go_ret
     exact ⟨eq_, bel⟩
    rw [if_neg c19] at H; exact Bool.noConfusion ((Option.some.inj H).trans ist_)
   replace c18 := Bool.eq_false_iff.mpr c18; subst c18
   rw [if_neg Bool.false_ne_true] at H
   have H' := am H
   clear H; go_wp2
   go_loopg [8] kj5 (fun kq v8 w' => ∃ (x8_2 : Int), v8 = .int .i64 x8_2 ∧ Aside0 (laws_FnMachineOf.l0 kq t505 t508 x8_2 = some r) ∧ Aside0 (kq ≤ kj5) ∧ Aside0 (Kd.R Kd.string 9 w' w.heap.size (fun _ => True) (.slice Ao8 t505.length co8) t505) ∧ Aside0 (Kd.S k45 45 w' w.heap.size (fun _ => True) v510 t508) ∧ Aside0 (Below w.heap.size w w'))
   case atStart => exact ⟨(0), sq, H', ⟨Nat.le_refl _⟩, ⟨rq HO_3.out⟩, ⟨by (with_reducible repeat (first | apply Kd.S_alloc | apply Kd.S_drewN | apply Kd.S_drew)); exact Kd.S_mono HO_4.out (fun _ hk => trivial)⟩, ⟨bel⟩⟩
   case round =>
    clear H'; (try clear c1); (try clear c2); (try clear c2b0); (try clear c2b1); (try clear p2); (try clear c4); (try clear c7); (try clear c9); (try clear c11); (try clear c11b0); (try clear c11b1); (try clear c11b2); (try clear c13); (try clear c15); (try clear c18); (try clear c19); (try clear c19b0); (try clear c19b1); (try clear c19b2); (try clear p2); obtain ⟨x8_2, rfl, HA, HK2, HO_3, HO_4, HB⟩ := hrel
    cases gk with
    | zero => exact absurd HA.out (by simp [laws_FnMachineOf.l0])
    | succ k2 =>
     have H := HA.out; clear HA; simp only [laws_FnMachineOf.l0] at H
     by_cases c23 : x8_2 < (t505.length : Int)
     ·rw [if_pos c23] at H; have c23b0 := decide_eq_true c23; clear c23
      replace H := it H; obtain ⟨c24b0, H⟩ := H; replace H := bs H; obtain ⟨t519, A250, H⟩ := H; (try dsimp only at H); have A25 := Aside0.mk A250; clear A250
      by_cases c26 : t519 = true
      ·subst c26
       rw [if_pos rfl] at H
       replace H := bs H; obtain ⟨t521, A270, H⟩ := H; (try dsimp only at H); have A27 := Aside0.mk A270; clear A270
       by_cases c28 : t521 = x8_2
       ·rw [if_pos c28] at H
        have c28b0 : (t521 == x8_2) = true := beq_iff_eq.mpr c28
        have c28b1 : (t521 != x8_2) = false := bne_eq_false_iff_eq.mpr c28
        clear c28; replace H := bs H; obtain ⟨t522, A290, H⟩ := H; (try dsimp only at H); have A29 := Aside0.mk A290; clear A290
        by_cases c30 : t522.toList = (rdOf ByteArray.empty t505 x8_2).toList
        ·rw [if_pos c30] at H
         have c30b0 : (t522.toList == (rdOf ByteArray.empty t505 x8_2).toList) = true := beq_iff_eq.mpr c30
         have c30b1 : (t522.toList != (rdOf ByteArray.empty t505 x8_2).toList) = false := bne_eq_false_iff_eq.mpr c30
         clear c30
         have H' := am H
         clear H
         try go_wp2
         replace HO_3 := am (Kd.R_drew HO_3.out); replace HO_4 := am (Kd.S_drew HO_4.out); replace HB := am (below_drew1 HB.out)
         have p518 : 0 ≤ (x8_2 : Int) := of_decide_eq_true ad
         have q518 : x8_2 < (t505.length : Int) := of_decide_eq_true ad
         obtain ⟨ad518, e518, hx518_0⟩ := Kd.at_string (Kd.R_reads' HO_3.out).2.2 x8_2 p518 q518; cases e518; replace p518 := eq_true p518; replace q518 := eq_true q518; obtain ⟨Ao32, co32, eo32⟩ := Kd.S_slice HO_4.out
         (first | subst eo32 | (injection eo32 with f1_ f2_ f3_; have f4_ := f1_.symm; have f5_ := f3_.symm; clear f1_ f2_ f3_; subst f4_; subst f5_))
         have p520 : 0 ≤ (x8_2 : Int) := of_decide_eq_true ad
         have q520 : x8_2 < (t505.length : Int) := of_decide_eq_true ad
         obtain ⟨ad520, e520, hx520_0⟩ := Kd.at_string (Kd.R_reads' HO_3.out).2.2 x8_2 p520 q520
         obtain rfl : ad518 = ad520 := (by injection e520)
         replace p520 := eq_true p520; replace q520 := eq_true q520
         have p523 : 0 ≤ (x8_2 : Int) := of_decide_eq_true ad
         have q523 : x8_2 < (t505.length : Int) := of_decide_eq_true ad
         obtain ⟨ad523, e523, hx523_0⟩ := Kd.at_string (Kd.R_reads' HO_3.out).2.2 x8_2 p523 q523
         obtain rfl : ad518 = ad523 := (by injection e523)
         replace p523 := eq_true p523; replace q523 := eq_true q523
         refine st (n := 27) (S := fun w' => w'.cell? (ad518.add (x8_2).toNat) = some (.string (rdOf ByteArray.empty t505 x8_2)) ∧ w'.cell? (ad518.add (x8_2).toNat) = some (.string (rdOf ByteArray.empty t505 x8_2)) ∧ w'.cell? (ad518.add (x8_2).toNat) = some (.string (rdOf ByteArray.empty t505 x8_2))) (ds := []) ⟨hx518_0, hx520_0, hx523_0⟩ (fun hHeld => ?_); refine with_tabW laws_FnMachineOf.tab11 laws_FnMachineOf.bits11 (fun HT_ HW_ => ?_)
         generalize wr.drew = w31 at HO_3 HO_4 HB hx518_0 hx520_0 hx523_0 hHeld ⊢; refine pu 0 53 ?_; refine pu 1 54 ?_; refine pu 2 55 ?_; refine pu 3 56 ?_; refine tk3 4 57 hHeld ?_; refine on1 5 58 (fun K hK => ?_)
         refine go1 Try.func17 #[.slice Ao32 t508.length co32, .string (rdOf ByteArray.empty t505 x8_2)] ?_
         with_reducible refine (impl_MachineKnows.calls k2 _ _ t508 (rdOf ByteArray.empty t505 x8_2) true _ ?side1 ?side2 A25.out).mono ?_
         (case side1 => exact cq (Kd.S_reads' HO_4.out).2.2); (case side2 => exact (Kd.S_reads' HO_4.out).2.1)
         rintro e w33 ⟨rfl, hb⟩; have HS0_ := (hb.cell (World.block_lt_of_cell? _ _ (hHeld.1))).trans (hHeld.1); have HS1_ := (hb.cell (World.block_lt_of_cell? _ _ (hHeld.2.1))).trans (hHeld.2.1); have HS2_ := (hb.cell (World.block_lt_of_cell? _ _ (hHeld.2.2))).trans (hHeld.2.2); refine ⟨_, rfl, ?_⟩; replace HO_3 := am (Kd.R_below (rq HO_3.out) hb); replace HO_4 := am (Kd.S_below b19_ hb); replace HB := am (below_step bel hb); clear hb; refine hK.out _ _ ⟨HS0_, HS1_, HS2_⟩ (fun hHeld => ?_); clear hK K; refine nm 58 ?_; refine pu 6 59 ?_; refine pu 7 60 ?_; refine pu 8 61 ?_; refine pu 9 62 ?_; refine pu 10 63 ?_; refine pu 11 64 ?_; refine pu 14 67 ?_; refine tk3 12 65 hHeld ?_; refine on1 13 66 (fun K hK => ?_)
         refine go1 Try.func18 #[.slice Ao32 t508.length co32, .string (rdOf ByteArray.empty t505 x8_2)] ?_
         with_reducible refine (impl_MachineRank.calls k2 _ _ t508 (rdOf ByteArray.empty t505 x8_2) t521 _ ?side1 ?side2 A27.out).mono ?_
         (case side1 => exact cq (Kd.S_reads' HO_4.out).2.2); (case side2 => exact (Kd.S_reads' HO_4.out).2.1)
         rintro e w34 ⟨rfl, hb⟩; have HS0_ := (hb.cell (World.block_lt_of_cell? _ _ (hHeld.1))).trans (hHeld.1); have HS1_ := (hb.cell (World.block_lt_of_cell? _ _ (hHeld.2.1))).trans (hHeld.2.1); have HS2_ := (hb.cell (World.block_lt_of_cell? _ _ (hHeld.2.2))).trans (hHeld.2.2); refine ⟨_, rfl, ?_⟩; replace HO_3 := am (Kd.R_below (rq HO_3.out) hb); replace HO_4 := am (Kd.S_below b19_ hb); replace HB := am (below_step bel hb); clear hb; refine hK.out _ _ ⟨HS0_, HS1_, HS2_⟩ (fun hHeld => ?_); clear hK K; refine nm 66 ?_; refine pu 15 68 ?_; refine pu 16 69 ?_; refine pu 17 70 ?_; refine pu 18 71 ?_; refine pu 19 72 ?_; refine pu 21 74 ?_; refine pu 22 75 ?_; refine pu 23 76 ?_; refine tk3 24 77 hHeld ?_; refine on1 20 73 (fun K hK => ?_)
         refine go1 Try.func19 #[.slice Ao32 t508.length co32, .int .i64 x8_2] ?_
         with_reducible refine (impl_MachineWord.calls k2 _ _ t508 x8_2 t522 _ ?side1 ?side2 A29.out).mono ?_
         (case side1 => exact cq (Kd.S_reads' HO_4.out).2.2); (case side2 => exact (Kd.S_reads' HO_4.out).2.1)
         rintro e w35 ⟨rfl, hb⟩; have HS0_ := (hb.cell (World.block_lt_of_cell? _ _ (hHeld.1))).trans (hHeld.1); have HS1_ := (hb.cell (World.block_lt_of_cell? _ _ (hHeld.2.1))).trans (hHeld.2.1); have HS2_ := (hb.cell (World.block_lt_of_cell? _ _ (hHeld.2.2))).trans (hHeld.2.2); refine ⟨_, rfl, ?_⟩; replace HO_3 := am (Kd.R_below (rq HO_3.out) hb); replace HO_4 := am (Kd.S_below b19_ hb); replace HB := am (below_step bel hb); clear hb; refine hK.out _ _ ⟨HS0_, HS1_, HS2_⟩ (fun hHeld => ?_); clear hK K; refine nm 73 ?_; refine pu 25 78 ?_; refine pu 26 79 ?_
         refine done_ (done_of HT_.out (by kernel_rfl)) ?_
         try go_wp2
         go_roundg k2
         case measure => have := HJ5.out; have := HK2.out; omega
         case rel => exact ⟨(wrap64 (x8_2 + 1)), sq, H', ⟨by have := HJ5.out; have := HK2.out; omega⟩, ⟨rq HO_3.out⟩, ⟨b19_⟩, ⟨bel⟩⟩
        rw [if_neg c30] at H; exact Bool.noConfusion ((Option.some.inj H).trans ist_)
       rw [if_neg c28] at H; exact Bool.noConfusion ((Option.some.inj H).trans ist_)
      replace c26 := Bool.eq_false_iff.mpr c26; subst c26
      have H1 : (some false) = some r := b6_
      exact Bool.noConfusion ((Option.some.inj H1).trans ist_)
     rw [if_neg c23] at H; have c23b0 := decide_eq_false c23; clear c23
     have H' := am H
     clear H; go_wp2
     go_loopg [9] k2 (fun kq v9 w' => ∃ (x9_3 : Int), v9 = .int .i64 x9_3 ∧ Aside0 (laws_FnMachineOf.l1 kq t505 t508 x9_3 = some r) ∧ Aside0 (kq ≤ k2) ∧ Aside0 (Kd.R Kd.string 9 w' w.heap.size (fun _ => True) (.slice Ao8 t505.length co8) t505) ∧ Aside0 (Kd.S k45 45 w' w.heap.size (fun _ => True) v510 t508) ∧ Aside0 (Below w.heap.size w w'))
     case atStart => exact ⟨(0), sq, H', ⟨Nat.le_refl _⟩, ⟨rq HO_3.out⟩, ⟨b19_⟩, ⟨bel⟩⟩
     case round =>
      clear H'; (try clear c1); (try clear c2); (try clear p2); (try clear p5); (try clear q5); (try clear hx5); (try clear c17); (try clear c18); (try clear c19); (try clear c23); (try clear c23b0); (try clear c24); (try clear c26); (try clear c28); (try clear c28b0); (try clear c28b1); (try clear hx518_0); (try clear hx520_0); (try clear p518); (try clear p520); (try clear q518); (try clear q520); obtain ⟨x9_3, rfl, HA, HK3, HO_3, HO_4, HB⟩ := hrel
      cases gk with
      | zero => exact absurd HA.out (by simp [laws_FnMachineOf.l1])
      | succ k3 =>
       have H := HA.out; clear HA; simp only [laws_FnMachineOf.l1] at H
       by_cases c48 : x9_3 < (t508.length : Int)
       ·rw [if_pos c48] at H; have c48b0 := decide_eq_true c48; clear c48
        have H' := am H
        clear H; obtain ⟨Ao49, co49, eo49⟩ := Kd.S_slice HO_4.out; subst eo49; go_wp2
        go_loopg [10] k3 (fun kq v10 w' => ∃ (x10_4 : Int), v10 = .int .i64 x10_4 ∧ Aside0 (laws_FnMachineOf.l2 kq t505 t508 x9_3 x10_4 = some r) ∧ Aside0 (kq ≤ k3) ∧ Aside0 (Kd.R Kd.string 9 w' w.heap.size (fun _ => True) (.slice Ao8 t505.length co8) t505) ∧ Aside0 (Kd.S k45 45 w' w.heap.size (fun _ => True) (.slice Ao49 t508.length co49) t508) ∧ Aside0 (Below w.heap.size w w'))
        case atStart => exact ⟨(0), sq, H', ⟨Nat.le_refl _⟩, ⟨rq HO_3.out⟩, ⟨b19_⟩, ⟨bel⟩⟩
        case round =>
         clear H'; (try clear c1); (try clear c2); (try clear p2); (try clear c4); (try clear p5); (try clear q5); (try clear hx5); (try clear c17); (try clear c18); (try clear c19); (try clear c23); (try clear c23b0); (try clear c24); (try clear c26); (try clear c28); (try clear c28b0); (try clear c28b1); (try clear c48); (try clear c48b0); (try clear hx518_0); (try clear hx520_0); (try clear p2); (try clear p5); (try clear p518); (try clear p520); (try clear q5); (try clear q518); (try clear q520); obtain ⟨x10_4, rfl, HA, HK4, HO_3, HO_4, HB⟩ := hrel
         cases gk with
         | zero => exact absurd HA.out (by simp [laws_FnMachineOf.l2])
         | succ k4 =>
          have H := HA.out; clear HA; simp only [laws_FnMachineOf.l2] at H
          by_cases c50 : x10_4 < x9_3
          ·rw [if_pos c50] at H; have c50b0 := decide_eq_true c50; clear c50
           replace H := ip H; obtain ⟨c51, H⟩ := H; have c51b0 := eq_true c51
           have c51b1 : decide (0 ≤ x9_3) = true := decide_eq_true c51
           clear c51; replace H := ip H; obtain ⟨c52, H⟩ := H; have c52b0 := eq_true c52
           have c52b1 : decide (x9_3 ≤ (wrap64 (x9_3 + 1))) = true := decide_eq_true c52
           replace H := ip H; obtain ⟨c53, H⟩ := H; have c53b0 := eq_true c53
           have c53b1 : decide ((wrap64 (x9_3 + 1)) ≤ (t508.length : Int)) = true := decide_eq_true c53
           obtain ⟨y526, hy526⟩ : ∃ y_ : List (S45), y_ = ((t508.take ((wrap64 (x9_3 + 1)) : Int).toNat).drop (x9_3 : Int).toNat) := ⟨_, rfl⟩
           replace H : (if 0 ≤ x10_4 then (if x10_4 ≤ (wrap64 (x10_4 + 1)) then (if (wrap64 (x10_4 + 1)) ≤ (t508.length : Int) then ((laws_mdMachine.f k4 y526 ((t508.take ((wrap64 (x10_4 + 1)) : Int).toNat).drop (x10_4 : Int).toNat)).bind fun t534 => (if t534 = true then (some false) else (laws_FnMachineOf.l2 k4 t505 t508 x9_3 (wrap64 (x10_4 + 1))))) else (none)) else (none)) else (none)) = some r := by first | (rw [hy526]; with_reducible exact H) | (have H2_ := bm H; rw [hy526]; with_reducible exact H2_) | (with_reducible exact bm H) | with_reducible exact H | (rw [hy526]; exact H) | exact H
           have Ny526 := am hy526; clear hy526; replace H := ip H; obtain ⟨c54, H⟩ := H; have c54b0 := eq_true c54
           have c54b1 : decide (0 ≤ x10_4) = true := decide_eq_true c54
           clear c54; replace H := ip H; obtain ⟨c55, H⟩ := H; have c55b0 := eq_true c55
           have c55b1 : decide (x10_4 ≤ (wrap64 (x10_4 + 1))) = true := decide_eq_true c55
           replace H := ip H; obtain ⟨c56, H⟩ := H; have c56b0 := eq_true c56
           have c56b1 : decide ((wrap64 (x10_4 + 1)) ≤ (t508.length : Int)) = true := decide_eq_true c56
           obtain ⟨y530, hy530⟩ : ∃ y_ : List (S45), y_ = ((t508.take ((wrap64 (x10_4 + 1)) : Int).toNat).drop (x10_4 : Int).toNat) := ⟨_, rfl⟩
           replace H : ((laws_mdMachine.f k4 y526 y530).bind fun t534 => (if t534 = true then (some false) else (laws_FnMachineOf.l2 k4 t505 t508 x9_3 (wrap64 (x10_4 + 1))))) = some r := by first | (rw [hy530]; with_reducible exact H) | (have H2_ := bm H; rw [hy530]; with_reducible exact H2_) | (with_reducible exact bm H) | with_reducible exact H | (rw [hy530]; exact H) | exact H
           have Ny530 := am hy530; clear hy530; replace H := bs H; obtain ⟨t534, A570, H⟩ := H; (try dsimp only at H); have A57 := Aside0.mk A570; clear A570
           by_cases c58 : t534 = true
           ·subst c58
            have H1 : (some false) = some r := b17_
            exact Bool.noConfusion ((Option.some.inj H1).trans ist_)
           replace c58 := Bool.eq_false_iff.mpr c58; subst c58
           rw [if_neg Bool.false_ne_true] at H
           have H' := am H
           clear H
           try go_wp2
           replace HO_3 := am (Kd.R_drew HO_3.out); replace HO_4 := am (Kd.S_drew HO_4.out); replace HB := am (below_drew1 HB.out)
           have q63 : ((wrap64 (x9_3 + 1)) : Int) ≤ ((t508.length : Int) : Int) := of_decide_eq_true ad
           obtain ⟨i063, hi063, _, hsz63, _⟩ := info_parts info45
           have hroom63 : t508.length ≤ co49 := (Kd.S_reads' HO_4.out).2.1
           have hC63 : Kd.C k45 _ Ao49 t508.length t508 := (Kd.S_reads' HO_4.out).2.2
           have ql63 : (x9_3 : Int) ≤ ((wrap64 (x9_3 + 1)) : Int) := of_decide_eq_true ad
           have q063 : (0 : Int) ≤ (x9_3 : Int) := of_decide_eq_true ad
           have hcut63 := cut_mid (P := Try.prog) 24 45 .i64 .i64 Try.underlying24 hi063 2 hsz63 Ao49 t508.length co49 x9_3 (wrap64 (x9_3 + 1)) q063 ql63 q63 hroom63; have hr63 := Kd.C_mid (lo := (x9_3 : Int).toNat) (hi := ((wrap64 (x9_3 + 1)) : Int).toNat) (c := co49) hC63 (by omega) (by omega) hroom63
           obtain ⟨A63, hA63⟩ : ∃ A1, A1 = (if co49 = (x9_3 : Int).toNat then Ao49 else (Ao49 : Option Addr).map (·.add ((x9_3 : Int).toNat * 2))) := ⟨_, rfl⟩; obtain ⟨c63, hc63⟩ : ∃ c1, c1 = co49 - (x9_3 : Int).toNat := ⟨_, rfl⟩
           have hy63 : y526.length = ((wrap64 (x9_3 + 1)) : Int).toNat - (x9_3 : Int).toNat := (by rw [Ny526.out, List.length_drop, List.length_take] <;> omega)
           rw [show ((t508).take ((wrap64 (x9_3 + 1)) : Int).toNat).drop (x9_3 : Int).toNat = y526 from Ny526.out.symm] at hr63
           replace hr63 : Kd.C k45 _ A63 y526.length y526 := (by rw [hA63]; exact hr63)
           rw [← hy63, ← hA63, ← hc63] at hcut63; have HR529 := am hr63
           have HC529 := am (show y526.length ≤ c63 from by rw [hy63, hc63]; exact Nat.sub_le_sub_right (Nat.le_trans (by omega) hroom63) _)
           clear hr63 hC63 hroom63 hi063 hsz63 hc63; have KY63 := am hy63; have KA63 := am hA63; clear hy63 hA63
           have KL63 := am (show ((wrap64 (x9_3 + 1)) : Int).toNat ≤ t508.length from by omega)
           have KM63 := am (show (x9_3 : Int).toNat ≤ ((wrap64 (x9_3 + 1)) : Int).toNat from by omega)
           replace q63 := eq_true q63
           have q64 : ((wrap64 (x10_4 + 1)) : Int) ≤ ((t508.length : Int) : Int) := of_decide_eq_true ad
           obtain ⟨i064, hi064, _, hsz64, _⟩ := info_parts info45
           have hroom64 : t508.length ≤ co49 := (Kd.S_reads' HO_4.out).2.1
           have hC64 : Kd.C k45 _ Ao49 t508.length t508 := (Kd.S_reads' HO_4.out).2.2
           have ql64 : (x10_4 : Int) ≤ ((wrap64 (x10_4 + 1)) : Int) := of_decide_eq_true ad
           have q064 : (0 : Int) ≤ (x10_4 : Int) := of_decide_eq_true ad
           have hcut64 := cut_mid (P := Try.prog) 24 45 .i64 .i64 Try.underlying24 hi064 2 hsz64 Ao49 t508.length co49 x10_4 (wrap64 (x10_4 + 1)) q064 ql64 q64 hroom64; have hr64 := Kd.C_mid (lo := (x10_4 : Int).toNat) (hi := ((wrap64 (x10_4 + 1)) : Int).toNat) (c := co49) hC64 (by omega) (by omega) hroom64
           obtain ⟨A64, hA64⟩ : ∃ A1, A1 = (if co49 = (x10_4 : Int).toNat then Ao49 else (Ao49 : Option Addr).map (·.add ((x10_4 : Int).toNat * 2))) := ⟨_, rfl⟩; obtain ⟨c64, hc64⟩ : ∃ c1, c1 = co49 - (x10_4 : Int).toNat := ⟨_, rfl⟩
           have hy64 : y530.length = ((wrap64 (x10_4 + 1)) : Int).toNat - (x10_4 : Int).toNat := (by rw [Ny530.out, List.length_drop, List.length_take] <;> omega)
           rw [show ((t508).take ((wrap64 (x10_4 + 1)) : Int).toNat).drop (x10_4 : Int).toNat = y530 from Ny530.out.symm] at hr64
           replace hr64 : Kd.C k45 _ A64 y530.length y530 := (by rw [hA64]; exact hr64)
           rw [← hy64, ← hA64, ← hc64] at hcut64; have HR533 := am hr64
           have HC533 := am (show y530.length ≤ c64 from by rw [hy64, hc64]; exact Nat.sub_le_sub_right (Nat.le_trans (by omega) hroom64) _)
           clear hr64 hC64 hroom64 hi064 hsz64 hc64; have KY64 := am hy64; have KA64 := am hA64; clear hy64 hA64
           have KL64 := am (show ((wrap64 (x10_4 + 1)) : Int).toNat ≤ t508.length from by omega)
           have KM64 := am (show (x10_4 : Int).toNat ≤ ((wrap64 (x10_4 + 1)) : Int).toNat from by omega)
           replace q64 := eq_true q64
           refine st (n := 11) (S := fun w' => True) (ds := []) trivial (fun hHeld => ?_); refine with_tabW laws_FnMachineOf.tab19 laws_FnMachineOf.bits19 (fun HT_ HW_ => ?_)
           generalize wr.drew = w62 at HO_3 HO_4 HB HR529 HR533 hHeld ⊢; refine pu 0 91 ?_; refine pu 1 92 ?_; refine pu 2 93 ?_; refine pu 3 94 ?_; refine pu 4 95 ?_; refine pu 5 96 ?_; refine pu 6 97 ?_; refine pu 7 98 ?_; refine pu 8 99 ?_; refine pu 9 100 ?_; refine on1 10 101 (fun K hK => ?_)
           refine go1 Try.func16 #[.slice A63 y526.length c63, .slice A64 y530.length c64] ?_
           with_reducible refine (laws_mdMachine.calls k4 _ _ y526 _ _ y530 false _ ?side1 ?side2 ?side3 ?side4 A57.out).mono ?_
           (case side1 => repeat (first | exact (by repeat (first | (with_reducible exact HR529.out) | (with_reducible refine Kd.C_alloc ?_ _) | (with_reducible refine Kd.C_drewN ?_ _) | (with_reducible refine Kd.C_drew ?_) | exact HR529.out)) | (with_reducible refine Kd.C_alloc ?_ _) | (with_reducible refine Kd.C_drewN ?_ _) | (with_reducible refine Kd.C_drew ?_))); (case side2 => exact HC529.out); (case side3 => repeat (first | exact (by repeat (first | (with_reducible exact HR533.out) | (with_reducible refine Kd.C_alloc ?_ _) | (with_reducible refine Kd.C_drewN ?_ _) | (with_reducible refine Kd.C_drew ?_) | exact HR533.out)) | (with_reducible refine Kd.C_alloc ?_ _) | (with_reducible refine Kd.C_drewN ?_ _) | (with_reducible refine Kd.C_drew ?_))); (case side4 => exact HC533.out)
           rintro e w' ⟨rfl, ⟨nd, rfl⟩⟩
           refine ⟨_, rfl, ?_⟩; refine hK.out _ _ trivial (fun hHeld => ?_); clear hK K; refine nm 101 ?_
           refine done_ (done_of HT_.out (by kernel_rfl)) ?_
           try go_wp2
           go_roundg k4
           case measure => have := HJ5.out; have := HK2.out; have := HK3.out; have := HK4.out; omega
           case rel => exact ⟨(wrap64 (x10_4 + 1)), sq, H', ⟨by have := HJ5.out; have := HK2.out; have := HK3.out; have := HK4.out; omega⟩, ⟨rq HO_3.out⟩, ⟨b19_⟩, ⟨bel⟩⟩
          rw [if_neg c50] at H; have c50b0 := decide_eq_false c50; clear c50
          have H' := am H
          clear H; go_wp2
          go_roundg k4
          case measure => have := HJ5.out; have := HK2.out; have := HK3.out; have := HK4.out; omega
          case rel => exact ⟨(wrap64 (x9_3 + 1)), sq, H', ⟨by have := HJ5.out; have := HK2.out; have := HK3.out; have := HK4.out; omega⟩, ⟨rq HO_3.out⟩, ⟨b19_⟩, ⟨bel⟩⟩
       rw [if_neg c48] at H; have c48b0 := decide_eq_false c48; clear c48; replace H := bs H; obtain ⟨t524, A650, H⟩ := H; (try dsimp only at H); have A65 := Aside0.mk A650; clear A650
       by_cases c66 : t524 = true
       ·subst c66
        rw [if_pos rfl] at H
        replace H := bs H; obtain ⟨t525, A670, H⟩ := H; (try dsimp only at H); have A67 := Aside0.mk A670; clear A670; obtain rfl := Option.some.inj H; obtain ⟨Ao68, co68, eo68⟩ := Kd.S_slice HO_4.out; subst eo68
        go_wp2_with (first | ((with_reducible refine gate_callee (f := 20) rfl ?_); refine gl 103 Try.func20 #[.slice Ao68 t508.length co68] ?_; (with_reducible refine (impl_MachineOk.calls k3 _ _ t508 true _ ?side1 ?side2 A65.out).mono ?_); (case side1 => exact cq (Kd.S_reads' HO_4.out).2.2); (case side2 => exact (Kd.S_reads' HO_4.out).2.1); rintro e w69 ⟨rfl, hb⟩; refine ⟨_, rfl, ?_⟩; replace HO_3 := am (Kd.R_below (rq HO_3.out) hb); replace HO_4 := am (Kd.S_below b19_ hb); replace HB := am (below_step bel hb); clear hb) | (go_at_call 21; (with_reducible refine (impl_MachineCount.calls k3 _ _ t508 t525 _ ?side1 ?side2 A67.out).mono ?_); (case side1 => exact cq (Kd.S_reads' HO_4.out).2.2); (case side2 => exact (Kd.S_reads' HO_4.out).2.1); rintro e w70 ⟨rfl, hb⟩; replace HO_3 := am (Kd.R_below (rq HO_3.out) hb); replace HO_4 := am (Kd.S_below b19_ hb); replace HB := am (below_step bel hb); clear hb))
        go_ret
        exact ⟨eq_, bel⟩
       replace c66 := Bool.eq_false_iff.mpr c66; subst c66
       have H1 : (some false) = some r := b6_
       exact Bool.noConfusion ((Option.some.inj H1).trans ist_)

/-- THE ONE PURE STATEMENT of laws_FnMachineOf: yours. -/
def laws_FnMachineOf.Pure : Prop := ∀ (l0 : List Int), l0.length ≤ maxLen → l0.length * 1 ≤ 140737488351232 → (∀ x ∈ l0, (Lit.int .u8 x).wf = true) → ∃ k, laws_FnMachineOf.f k l0 = some true
theorem laws_FnMachineOf.walk (P : laws_FnMachineOf.Pure) (a0 : Option Addr) (len0 cap0 : Nat) (z0 : List Int) (w : World) (w0 : (a0 = none ∧ len0 = 0 ∧ cap0 = 0 ∧ z0 = []) ∨ ∃ x, a0 = some x ∧ len0 ≤ cap0 ∧ cap0 ≤ maxLen ∧ z0.length = cap0 ∧ (∀ i, i < z0.length → w.cell? (x.add i) = some (.int .u8 (z0.getD i 0))) ∧ ∀ n ∈ z0, (Lit.int .u8 n).wf = true) (y0 : len0 * 1 ≤ 140737488351232) :
  Calls Try.prog 4 #[.slice a0 len0 cap0] w fun e w' => e = .returned (.bool true) ∧ Below w.heap.size w w' := by
 obtain ⟨l0, rfl, hr0, hm0, hw0, hc0⟩ := ReadsInt.ofRowC w0; obtain ⟨k, h⟩ := P l0 hm0 y0 hw0
 refine (laws_FnMachineOf.calls k _ _ l0 true w (Kd.C_of_reads (d := (0 : Int)) (h1 := fun _ => rfl) hr0) hc0 h).mono ?_
 rintro e w' ⟨rfl, hd⟩
 exact ⟨rfl, hd⟩
end Go.Proofs.Ytpljfjbhlboffaa.QFnMachineOf
