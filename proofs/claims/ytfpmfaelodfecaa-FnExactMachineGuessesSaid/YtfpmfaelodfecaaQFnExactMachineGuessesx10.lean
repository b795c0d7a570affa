import Derived.Test.YtfpmfaelodfecaaQFnExactMachineGuessesx0
import Derived.Test.YtfpmfaelodfecaaQFnExactMachineGuessesx6
import Derived.Test.YtfpmfaelodfecaaVMSh2
namespace Go.Proofs.Ytfpmfaelodfecaa.QFnExactMachineGuesses
open Go.RowKit Go.Proofs.YtfpmfaelodfecaaW.PrintWords Go.Proofs.YtfpmfaelodfecaaW.PrintLast Go.Proofs.YtfpmfaelodfecaaW.PrintMore Go.Proofs.Ytfpmfaelodfecaa.Sh
attribute [local go_sem] max2_int min2_int max_two min_two max_three min_three max_four min_four
set_option linter.unusedVariables false
set_option linter.unusedSimpArgs false
set_option maxHeartbeats 8000000
set_option maxRecDepth 100000
-- shrunk

/-! ### impl_MachineOk: function 44 -/
mutual
def impl_MachineOk.l0 : Nat → List (S94) → List Int → Int → Option (Bool)
 | 0, _, _, _ => none
 | k + 1, x0, x3, x4 => if x4 ≥ 0 then (if 0 ≤ x4 then (if x4 < (x0.length : Int) then (if x4 > 0 then (if ((rd_T94 x0 x4).f0 = true) then (impl_MachineOk.j1 k x0 x3 x4 false ((rd_T94 x0 x4).f0) ((rd_T94 x0 x4).f1)) else (impl_MachineOk.j1 k x0 x3 x4 ((((rd_T94 x0 x4).f1).length : Int) == 0) ((rd_T94 x0 x4).f0) ((rd_T94 x0 x4).f1))) else (impl_MachineOk.j1 k x0 x3 x4 false ((rd_T94 x0 x4).f0) ((rd_T94 x0 x4).f1))) else (none)) else (none)) else (if 0 < (x3.length : Int) then (some (decide ((rd x3 0) ≤ 12))) else (none))
def impl_MachineOk.j1 : Nat → List (S94) → List Int → Int → Bool → Bool → List (S100) → Option (Bool)
 | 0, _, _, _, _, _, _ => none
 | k + 1, x0, x3, x4, x38, x239000, x239001 => if x38 = true then (some false) else (if 0 ≤ x4 then (if x4 < (x3.length : Int) then ((some (x3.set (x4 : Int).toNat (-1) : List Int)).bind fun y239 => (if x239000 = true then (impl_MachineOk.j2 k x0 (y239.set (x4 : Int).toNat 0) x4 x239000 x239001) else (impl_MachineOk.j2 k x0 y239 x4 x239000 x239001))) else (none)) else (none))
def impl_MachineOk.j2 : Nat → List (S94) → List Int → Int → Bool → List (S100) → Option (Bool)
 | 0, _, _, _, _, _ => none
 | k + 1, x0, x3, x4, x239000, x239001 => impl_MachineOk.l1 k x0 x3 x4 x239001 (x239001.length : Int) 0 x239000 x239001
def impl_MachineOk.l1 : Nat → List (S94) → List Int → Int → List (S100) → Int → Int → Bool → List (S100) → Option (Bool)
 | 0, _, _, _, _, _, _, _, _ => none
 | k + 1, x0, x3, x4, x48, x49, x50, x239000, x239001 => if x50 < x49 then (if 0 ≤ x50 then (if x50 < (x48.length : Int) then ((impl_within.f ((rd_T100 x48 x50).f0) 97 122).bind fun t243 => (if t243 = true then (if x50 > 0 then (if 0 ≤ (wrap64 (x50 - 1)) then (if (wrap64 (x50 - 1)) < (x239001.length : Int) then (if ((rd_T100 x239001 (wrap64 (x50 - 1))).f0) ≥ ((rd_T100 x48 x50).f0) then (impl_MachineOk.j4 k x0 x3 x4 x48 x49 x50 true x239000 x239001 ((rd_T100 x48 x50).f0) ((rd_T100 x48 x50).f1)) else ((impl_within.f ((rd_T100 x48 x50).f1) (wrap64 (x4 + 1)) (wrap64 ((x0.length : Int) - 1))).bind fun t245 => (impl_MachineOk.j4 k x0 x3 x4 x48 x49 x50 (!t245) x239000 x239001 ((rd_T100 x48 x50).f0) ((rd_T100 x48 x50).f1)))) else (none)) else (none)) else ((impl_within.f ((rd_T100 x48 x50).f1) (wrap64 (x4 + 1)) (wrap64 ((x0.length : Int) - 1))).bind fun t246 => (impl_MachineOk.j4 k x0 x3 x4 x48 x49 x50 (!t246) x239000 x239001 ((rd_T100 x48 x50).f0) ((rd_T100 x48 x50).f1)))) else (impl_MachineOk.j4 k x0 x3 x4 x48 x49 x50 true x239000 x239001 ((rd_T100 x48 x50).f0) ((rd_T100 x48 x50).f1)))) else (none)) else (none)) else (impl_MachineOk.l0 k x0 x3 (wrap64 (x4 - 1)))
def impl_MachineOk.j4 : Nat → List (S94) → List Int → Int → List (S100) → Int → Int → Bool → Bool → List (S100) → Int → Int → Option (Bool)
 | 0, _, _, _, _, _, _, _, _, _, _, _ => none
 | k + 1, x0, x3, x4, x48, x49, x50, x85, x239000, x239001, x243000, x243001 => if x85 = true then (some false) else (if 0 ≤ x243001 then (if x243001 < (x3.length : Int) then (if (rd x3 x243001) ≥ 0 then (if 0 ≤ x4 then (if x4 < (x3.length : Int) then (impl_MachineOk.l1 k x0 (x3.set (x4 : Int).toNat (mx (rd x3 x4) (wrap64 ((rd x3 x243001) + 1)))) x4 x48 x49 (wrap64 (x50 + 1)) x239000 x239001) else (none)) else (none)) else (impl_MachineOk.l1 k x0 x3 x4 x48 x49 (wrap64 (x50 + 1)) x239000 x239001)) else (none)) else (none))
end
def impl_MachineOk.f (k : Nat) (l0 : List (S94)) : Option (Bool) := (impl_within.f (l0.length : Int) 1 400).bind fun t232 => (if t232 = true then (if 0 ≤ (l0.length : Int) then (if l0.length ≤ 35184372088832 then (impl_MachineOk.l0 k l0 (List.replicate l0.length 0) (wrap64 ((l0.length : Int) - 1))) else (none)) else (none)) else (some false))
def impl_MachineOk.T16 : Bool × List (List Nat × List Nat) := (true, [([], []), ([0], [0]), ([1], [1]), ([2], [2]), ([3, 2], [3]), ([4], [4]), ([5, 4], [4, 5]), ([6, 4, 4], [4, 6]), ([7], [7]), ([8, 7], [7, 8]), ([7], [7]), ([10, 7], [7, 10]), ([9, 11, 7], [7, 9, 11]), ([12, 7], [7, 12]), ([13, 7], [7, 13]), ([7], [7]), ([15, 7], [7, 15]), ([14, 16, 7], [7, 14, 16]), ([7, 17, 4], [4, 7, 17]), ([4, 18], [4, 18]), ([19, 7], [19]), ([20], [20]), ([21, 20], [20, 21]), ([20], [20]), ([23, 20], [20, 23]), ([20], [20]), ([25, 20], [20, 25]), ([26, 20], [20, 26]), ([22, 24, 27, 20, 20], [20, 22, 24, 27]), ([28, 20], [20, 28]), ([20, 29], [20, 29])])
def impl_MachineOk.B16 : List Nat := [0, 1, 3, 7, 15, 31, 63, 127, 255, 511, 255, 1279, 4095, 8191, 16383, 255, 33023, 131071, 262143, 524287, 1048575, 2097151, 4194303, 2097151, 10485759, 2097151, 35651583, 102760447, 268435455, 536870911, 1073741823]
theorem impl_MachineOk.tab16 : rtab .any (opsOf Try.f44 16) = impl_MachineOk.T16 := by kernel_rfl
theorem impl_MachineOk.bits16 : waitsOk impl_MachineOk.T16.2 impl_MachineOk.B16 = true := by kernel_rfl
def impl_MachineOk.T19 : Bool × List (List Nat × List Nat) := (true, [([], []), ([], []), ([], []), ([], []), ([2, 3], [2, 3]), ([4], [4]), ([], []), ([], []), ([7], [7]), ([6, 8], [6, 8]), ([9], [9]), ([10], [10]), ([5, 11], [5, 11]), ([0, 1, 0, 1, 2, 3, 4, 5, 6, 7, 8, 9, 10, 11, 12], [0, 1]), ([13, 12, 0, 1, 2, 3, 4, 5, 6, 7, 8, 9, 10, 11, 12], [12, 13])])
def impl_MachineOk.B19 : List Nat := [0, 0, 0, 0, 12, 28, 0, 0, 128, 448, 960, 1984, 4092, 8191, 16383]
theorem impl_MachineOk.tab19 : rtab .any (opsOf Try.f44 19) = impl_MachineOk.T19 := by kernel_rfl
theorem impl_MachineOk.bits19 : waitsOk impl_MachineOk.T19.2 impl_MachineOk.B19 = true := by kernel_rfl
theorem impl_MachineOk.calls (k : Nat) (A0 : Option Addr) (c0 : Nat) (l0 : List (S94)) (r : Bool) (w : World) (hr0 : Kd.C k94 w A0 l0.length l0) (hc0 : l0.length ≤ c0) (h : impl_MachineOk.f k l0 = some r) :
  Calls Try.prog 44 #[.slice A0 l0.length c0] w fun e w' => e = .returned (.bool r) ∧ Below w.heap.size w w' := by
 have hu94 := Try.underlying94; have hu100 := Try.underlying100; have HR0 := am hr0; have HC0 := am hc0; clear hr0 hc0; have HB := am (Below.refl w.heap.size w)
 have H : ((impl_within.f (l0.length : Int) 1 400).bind fun t232 => (if t232 = true then (if 0 ≤ (l0.length : Int) then (if l0.length ≤ 35184372088832 then (impl_MachineOk.l0 k l0 (List.replicate l0.length 0) (wrap64 ((l0.length : Int) - 1))) else (none)) else (none)) else (some false))) = some r := h
 clear h; replace H := bs H; obtain ⟨t232, A20, H⟩ := H; replace H : (if t232 = true then (if 0 ≤ (l0.length : Int) then (if l0.length ≤ 35184372088832 then (impl_MachineOk.l0 k l0 (List.replicate l0.length 0) (wrap64 ((l0.length : Int) - 1))) else (none)) else (none)) else (some false)) = some r := H; have A2 := Aside0.mk A20; clear A20
 by_cases c3 : t232 = true
 ·subst c3
  have H1 : (if 0 ≤ (l0.length : Int) then (if l0.length ≤ 35184372088832 then (impl_MachineOk.l0 k l0 (List.replicate l0.length 0) (wrap64 ((l0.length : Int) - 1))) else (none)) else (none)) = some r := b11_
  replace H := H1; clear H1
  replace H := ip H; obtain ⟨c4, H⟩ := H; have c4b0 := eq_true c4
  have c4b1 : decide (0 ≤ (l0.length : Int)) = true := decide_eq_true c4
  clear c4
  replace H := ip H; obtain ⟨c5, H⟩ := H; have c5b0 := eq_true c5
  have c5b1 : decide (l0.length ≤ 35184372088832) = true := decide_eq_true c5
  clear c5; obtain ⟨y233, hy233⟩ : ∃ y_ : List Int, y_ = (List.replicate l0.length 0) := ⟨_, rfl⟩
  replace H : (impl_MachineOk.l0 k l0 y233 (wrap64 ((l0.length : Int) - 1))) = some r := by first | (rw [hy233]; with_reducible exact H) | (have H2_ := bm H; rw [hy233]; with_reducible exact H2_) | (with_reducible exact bm H) | with_reducible exact H | (rw [hy233]; exact H) | exact H
  have Ny233 := am hy233; clear hy233
  have H' := am H
  clear H; go_enter Try.func44, Try.ntmps44
  go_wp2_with (first | ((with_reducible refine gate_callee (f := 81) rfl ?_); refine goesL_ (some 10) rfl rfl Try.func81 (by kernel_rfl) rfl #[.int .i64 (l0.length : Int), .int .i64 1, .int .i64 400] rfl mq ?_; (with_reducible refine (impl_within.calls (l0.length : Int) 1 400 true _ A2.out).mono ?_); rintro e w' ⟨rfl, ⟨nd, rfl⟩⟩; refine ⟨_, rfl, ?_⟩) | ((with_reducible refine gate_dst (N := 14) rfl ?_); (try (refine gate_guard (by rfl) ?_; dsimp only)); refine Kd.R_make (Kd.int .i64) _ 3 rfl (N := 14) rfl 86 _ _ rfl (l0.length : Int) rfl rfl Try.underlying86 (.int .i64 0) 8 info3 rfl (by decide) (by omega) 0 (ok := fun _ => True) (okp := fun _ => True) rfl (fun _ hk => hk) trivial (of_decide_eq_true ad) (Nat.le_trans (Nat.mul_le_mul_right _ (of_decide_eq_true ad : (l0.length : Int).toNat ≤ 35184372088832)) (by omega)) (Below.refl _ _) (Nat.le_refl _) ?_; intro v234 w6 ho7 hb hg_ hnew_; clear hg_ hnew_; (first | rw [← Ny233.out] at ho7 | (simp only [Int.reduceToNat] at ho7; rw [← Ny233.out] at ho7) | (simp only [Int.toNat_natCast] at ho7; rw [← Ny233.out] at ho7)); have HO235 := am (Kd.R_lower ho7 (below_size bel)); replace HB := am (below_step bel hb); clear hb ho7))
  go_loopg [4] k (fun kq v4 w' => ∃ (x3_1 : List Int) (x4_1 : Int), v4 = .int .i64 x4_1 ∧ Aside0 (impl_MachineOk.l0 kq l0 x3_1 x4_1 = some r) ∧ Aside0 (kq ≤ k) ∧ Aside0 (Kd.R (Kd.int .i64) 3 w' w.heap.size (fun _ => True) v234 x3_1) ∧ Aside0 (Below w.heap.size w w'))
  case atStart => exact ⟨(y233), (wrap64 ((l0.length : Int) - 1)), sq, H', ⟨Nat.le_refl _⟩, ⟨rq HO235.out⟩, ⟨bel⟩⟩
  case round =>
   clear H'; (try clear p2); (try clear c3); (try clear c4); (try clear c4b0); (try clear c4b1); (try clear c5); (try clear c5b0); (try clear c5b1); (try clear p6); obtain ⟨x3_1, x4_1, rfl, HA, HK1, HO_3, HB⟩ := hrel
   cases gk with
   | zero => exact absurd HA.out (by simp [impl_MachineOk.l0])
   | succ k1 =>
    have H := HA.out; clear HA
    simp only [impl_MachineOk.l0] at H
    by_cases c8 : x4_1 ≥ 0
    ·rw [if_pos c8] at H; have c8b0 := decide_eq_true c8; clear c8
     replace H := it H; obtain ⟨c9b0, H⟩ := H
     replace H := it H; obtain ⟨c10b0, H⟩ := H; have HC11 := am H; clear H
     have p237 : 0 ≤ (x4_1 : Int) := of_decide_eq_true ad
     have q237 : x4_1 < (l0.length : Int) := of_decide_eq_true ad
     obtain ⟨ad237, A237_1, c237_1, e237, hx237_0, hx237_1, hl237_1, hi237_1⟩ := at_T94 HR0.out x4_1 p237 q237
     cases e237
     replace hx237_0 := kp HB.out hx237_0; replace hx237_1 := kp HB.out hx237_1; have HR237_1 := am hi237_1; have HC237_1 := am hl237_1; clear hi237_1 hl237_1; replace p237 := eq_true p237; replace q237 := eq_true q237
     go_upto_region 8 with (first | ((with_reducible refine gate_dst (N := 5) rfl ?_); (try (refine gate_guard (by rfl) ?_; dsimp only)); refine bx 5 (cs := #[.bool false, .slice none 0 0]) (t := 94) ?_; intro gb238 hg w12 hbox hb; replace HO_3 := am (Kd.R_below (rq HO_3.out) hb); have BK238 := am (hbox); have GW238 := am ((b7_ : w.heap.size ≤ gb238)); have GE238 := am ((b7_ : w.heap.size ≤ gb238)); replace HB := am (below_step bel hb); clear hb hbox hg; have hcz13_0 := bc BK238.out 0; have hcz13_1 := bc BK238.out 1; have hfz13_0 := bf BK238.out 0; have hfz13_1 := bf BK238.out 1))
     (try simp only [Act.put, List.setIfInBounds_toArray, List.set_cons_zero, List.set_cons_succ])
     go_cut [38] (fun v38 wc => ∃ (kq : Nat) (x38_10 : Bool), v38 = .bool x38_10 ∧ Aside0 (impl_MachineOk.j1 kq l0 x3_1 x4_1 x38_10 ((rd_T94 l0 x4_1).f0) ((rd_T94 l0 x4_1).f1) = some r) ∧ Aside0 (kq ≤ k1) ∧ Aside0 (Kd.R (Kd.int .i64) 3 wc w.heap.size (fun _ => True) v234 x3_1) ∧ Aside0 (wc.heap[gb238]? = some (.cells #[.bool ((rd_T94 l0 x4_1).f0), (.slice A237_1 ((rd_T94 l0 x4_1).f1).length c237_1)] 94 (0, 0))) ∧ Aside0 (Below w.heap.size w wc))
     case first =>
      have H := HC11.out; clear HC11
      by_cases c14 : x4_1 > 0
      ·rw [if_pos c14] at H; have c14b0 := decide_eq_true c14; clear c14
       (first | rw [c14b0] | (simp only [i64_w, i32_w]; rw [c14b0]) | skip)
       obtain ⟨bq15, hbq15⟩ : ∃ b_ : Bool, b_ = ((rd_T94 l0 x4_1).f0) := ⟨_, rfl⟩
       replace H : (if (bq15 = true) then (impl_MachineOk.j1 k1 l0 x3_1 x4_1 false bq15 ((rd_T94 l0 x4_1).f1)) else (impl_MachineOk.j1 k1 l0 x3_1 x4_1 ((((rd_T94 l0 x4_1).f1).length : Int) == 0) bq15 ((rd_T94 l0 x4_1).f1))) = some r := by rw [← hbq15] at H; exact H
       have Nbq15 := am hbq15; clear hbq15
       by_cases c16 : (bq15 = true)
       ·subst c16
        (try rw [← Nbq15.out] at hx237_0)
        (try rw [← Nbq15.out])
        have H1 : (impl_MachineOk.j1 k1 l0 x3_1 x4_1 false true ((rd_T94 l0 x4_1).f1)) = some r := b11_
        replace H := H1; clear H1
        have H' := am H
        clear H; have hcz17_0 := bc BK238.out 0; have hcz17_1 := bc BK238.out 1; have hfz17_0 := bf BK238.out 0; have hfz17_1 := bf BK238.out 1; go_wp2
        go_meet
        case rel => (try rw [← Nbq15.out]); exact ⟨_, (false), sq, H', ⟨b33_⟩, ⟨rq (Kd.R_mono (Kd.R_far (p := ⟨gb238, 1, none⟩) (Kd.R_far (p := ⟨gb238, 0, none⟩) (Kd.R_types HO_3.out BK238.out (by decide)) (fun _ hk => hk.2) (.bool (true))) (fun _ hk => hk.2) (.slice A237_1 ((rd_T94 l0 x4_1).f1).length c237_1)) (fun _ hk => trivial))⟩, ⟨by (with_reducible repeat (first | refine blk_drewN ?_ _ | refine blk_drew ?_ | refine blk_alloc ?_ _)); refine blk_put (cs := #[.bool (true), .slice none 0 0]) ?_ 1 _ rfl; (with_reducible repeat (first | refine blk_drewN ?_ _ | refine blk_drew ?_ | refine blk_alloc ?_ _)); refine blk_put (cs := #[.bool false, .slice none 0 0]) ?_ 0 _ rfl; (with_reducible repeat (first | refine blk_drewN ?_ _ | refine blk_drew ?_ | refine blk_alloc ?_ _)); exact BK238.out⟩, ⟨bel1 GE238.out⟩⟩
       replace c16 := Bool.eq_false_iff.mpr c16; subst c16
       (try rw [← Nbq15.out] at hx237_0)
       (try rw [← Nbq15.out])
       have H1 : (impl_MachineOk.j1 k1 l0 x3_1 x4_1 ((((rd_T94 l0 x4_1).f1).length : Int) == 0) false ((rd_T94 l0 x4_1).f1)) = some r := b5_
       replace H := H1; clear H1
       have H' := am H
       clear H; have hcz18_0 := bc BK238.out 0; have hcz18_1 := bc BK238.out 1; have hfz18_0 := bf BK238.out 0; have hfz18_1 := bf BK238.out 1; go_wp2
       go_meet
       case rel => (try rw [← Nbq15.out]); exact ⟨_, (((((rd_T94 l0 x4_1).f1).length : Int) == 0)), sq, H', ⟨b33_⟩, ⟨rq (Kd.R_mono (Kd.R_far (p := ⟨gb238, 1, none⟩) (Kd.R_far (p := ⟨gb238, 0, none⟩) (Kd.R_types HO_3.out BK238.out (by decide)) (fun _ hk => hk.2) (.bool (false))) (fun _ hk => hk.2) (.slice A237_1 ((rd_T94 l0 x4_1).f1).length c237_1)) (fun _ hk => trivial))⟩, ⟨by (with_reducible repeat (first | refine blk_drewN ?_ _ | refine blk_drew ?_ | refine blk_alloc ?_ _)); refine blk_put (cs := #[.bool (false), .slice none 0 0]) ?_ 1 _ rfl; (with_reducible repeat (first | refine blk_drewN ?_ _ | refine blk_drew ?_ | refine blk_alloc ?_ _)); refine blk_put (cs := #[.bool false, .slice none 0 0]) ?_ 0 _ rfl; (with_reducible repeat (first | refine blk_drewN ?_ _ | refine blk_drew ?_ | refine blk_alloc ?_ _)); exact BK238.out⟩, ⟨bel1 GE238.out⟩⟩
      rw [if_neg c14] at H; have c14b0 := decide_eq_false c14; clear c14
      (first | rw [c14b0] | (simp only [i64_w, i32_w]; rw [c14b0]) | skip)
      have H' := am H
      clear H; go_wp2
      go_meet
      case rel => exact ⟨_, (false), sq, H', ⟨b33_⟩, ⟨rq (Kd.R_mono (Kd.R_far (p := ⟨gb238, 1, none⟩) (Kd.R_far (p := ⟨gb238, 0, none⟩) (Kd.R_types HO_3.out BK238.out (by decide)) (fun _ hk => hk.2) (.bool ((rd_T94 l0 x4_1).f0))) (fun _ hk => hk.2) (.slice A237_1 ((rd_T94 l0 x4_1).f1).length c237_1)) (fun _ hk => trivial))⟩, ⟨by (with_reducible repeat (first | refine blk_drewN ?_ _ | refine blk_drew ?_ | refine blk_alloc ?_ _)); refine blk_put (cs := #[.bool ((rd_T94 l0 x4_1).f0), .slice none 0 0]) ?_ 1 _ rfl; (with_reducible repeat (first | refine blk_drewN ?_ _ | refine blk_drew ?_ | refine blk_alloc ?_ _)); refine blk_put (cs := #[.bool false, .slice none 0 0]) ?_ 0 _ rfl; (with_reducible repeat (first | refine blk_drewN ?_ _ | refine blk_drew ?_ | refine blk_alloc ?_ _)); exact BK238.out⟩, ⟨bel1 GE238.out⟩⟩
     case rest =>
      clear HC11; (try clear c1); (try clear q1); (try clear c2); (try clear p2); (try clear q2); (try clear hx2); (try clear c3); (try clear c4); (try clear c4b0); (try clear c4b1); (try clear c5); (try clear c5b0); (try clear c5b1); (try clear p6); (try clear c8); (try clear c8b0); (try clear c9); (try clear c9b0); (try clear c10); (try clear c10b0); (try clear c14); (try clear c14b0); (try clear q15); (try clear c16); (try clear hcz13_0); (try clear hcz13_1); (try clear hcz17_0); (try clear hcz17_1); (try clear hcz18_0); (try clear hcz18_1); (try clear hfz13_0); (try clear hfz13_1); (try clear hfz17_0); (try clear hfz17_1); (try clear hfz18_0); (try clear hfz18_1); (try clear hx237_0); (try clear hx237_1); (try clear p2); (try clear p237); (try clear p6); (try clear q237); obtain ⟨kq, x38_10, rfl, HA, HJ10, HO_3, BK238, HB⟩ := hcut
      cases kq with
      | zero => exact absurd HA.out (by simp [impl_MachineOk.j1])
      | succ kj10 =>
       have H := HA.out; clear HA
       simp only [impl_MachineOk.j1] at H
       by_cases c19 : x38_10 = true
       ·subst c19
        have H1 : (some false) = some r := b11_
        replace H := H1; clear H1
        obtain rfl := Option.some.inj H; go_wp2; go_ret
        exact ⟨eq_, bel1 GE238.out⟩
       replace c19 := Bool.eq_false_iff.mpr c19; subst c19
       have H1 : (if 0 ≤ x4_1 then (if x4_1 < (x3_1.length : Int) then ((some (x3_1.set (x4_1 : Int).toNat (-1) : List Int)).bind fun y239 => (if ((rd_T94 l0 x4_1).f0) = true then (impl_MachineOk.j2 kj10 l0 (y239.set (x4_1 : Int).toNat 0) x4_1 ((rd_T94 l0 x4_1).f0) ((rd_T94 l0 x4_1).f1)) else (impl_MachineOk.j2 kj10 l0 y239 x4_1 ((rd_T94 l0 x4_1).f0) ((rd_T94 l0 x4_1).f1)))) else (none)) else (none)) = some r := b5_
       replace H := H1; clear H1
       replace H := it H; obtain ⟨c20b0, H⟩ := H
       replace H := it H; obtain ⟨c21b0, H⟩ := H; obtain ⟨y239, hy239⟩ : ∃ y_ : List Int, y_ = (x3_1.set (x4_1 : Int).toNat (-1)) := ⟨_, rfl⟩
       replace H : (if ((rd_T94 l0 x4_1).f0) = true then (impl_MachineOk.j2 kj10 l0 (y239.set (x4_1 : Int).toNat 0) x4_1 ((rd_T94 l0 x4_1).f0) ((rd_T94 l0 x4_1).f1)) else (impl_MachineOk.j2 kj10 l0 y239 x4_1 ((rd_T94 l0 x4_1).f0) ((rd_T94 l0 x4_1).f1))) = some r := by first | (rw [hy239]; with_reducible exact H) | (have H2_ := bm H; rw [hy239]; with_reducible exact H2_) | (with_reducible exact bm H) | with_reducible exact H | (rw [hy239]; exact H) | exact H
       have Ny239 := am hy239; clear hy239; have HC23 := am H; clear H
       have p22 : 0 ≤ (x4_1 : Int) := of_decide_eq_true ad
       have q22 : (x4_1 : Int) < ((x3_1.length : Int) : Int) := of_decide_eq_true ad
       obtain ⟨go22, co22, eo22, gb22, gl22, cl22, HG22⟩ := Kd.R_form HO_3.out (by omega)
       (first | cases eo22 | (injection eo22 with ea_ en_ ec_; (first | subst ea_ | (injection ea_ with ea_; subst ea_)); subst ec_; clear en_))
       have GB22 := Aside0.mk gb22; have GG22 := am HG22; clear gb22 gl22 HG22; obtain ⟨hx22_0, hf22_0⟩ := Kd.R_celln 0 HO_3.out (x4_1 : Int) p22 q22; replace p22 := eq_true p22; replace q22 := eq_true q22; have HP24 := Kd.R_putg HO_3.out (x4_1 : Int) (-1)
       go_upto_if 43 with (first | ((with_reducible refine gate_store (t := 3) (p := 41) rfl ?_); refine store_event (t := 3) (p := 41) (v := ?vo_w25) (w1 := (wc.setCell ⟨go22, (x4_1 : Int).toNat, none⟩ (.int .i64 (-1)))) ?hg ?ho ?hn ?hr ?_; (case ho => rfl); (case hg => rfl); (case hn => rfl); (case hr => first | (go_simp; done) | (go_simp; rfl)); intro w25 hw; have hg : wc.grownBy w25 (some go22) := (by rw [hw]; exact HP24.2); have hp_ : Kd.R (Kd.int .i64) 3 w25 w.heap.size (fun _ => True) (.slice (some ⟨go22, 0, none⟩) x3_1.length co22) y239 := (by rw [hw, Ny239.out]; exact HP24.1); clear HP24; replace BK238 := am (blk_grown (g := gb238) (o := .cells #[.bool ((rd_T94 l0 x4_1).f0), .slice A237_1 ((rd_T94 l0 x4_1).f1).length c237_1] 94 (0, 0)) (bq BK238.out) hg (Kd.R_ne HO_3.out BK238.out (by decide))); replace HO_3 := am (hp_); replace HB := am ((by rw [hw]; exact below_set (HB.out) GB22.out : Below w.heap.size w w25)); clear hg hw hp_; have hcz26_0 := bc BK238.out 0; have hcz26_1 := bc BK238.out 1; have hfz26_0 := bf BK238.out 0; have hfz26_1 := bf BK238.out 1))
       (try simp only [Act.put, List.setIfInBounds_toArray, List.set_cons_zero, List.set_cons_succ])
       go_cut [] (fun wc => ∃ (kq : Nat) (x3_22 : List Int), Aside0 (impl_MachineOk.j2 kq l0 x3_22 x4_1 ((rd_T94 l0 x4_1).f0) ((rd_T94 l0 x4_1).f1) = some r) ∧ Aside0 (kq ≤ kj10) ∧ Aside0 (Kd.R (Kd.int .i64) 3 wc w.heap.size (fun _ => True) (.slice (some ⟨go22, 0, none⟩) x3_1.length co22) x3_22) ∧ Aside0 (wc.heap[gb238]? = some (.cells #[.bool ((rd_T94 l0 x4_1).f0), (.slice A237_1 ((rd_T94 l0 x4_1).f1).length c237_1)] 94 (0, 0))) ∧ Aside0 (Below w.heap.size w wc))
       case first =>
        have H := HC23.out; clear HC23
        by_cases c27 : ((rd_T94 l0 x4_1).f0) = true
        ·rw [if_pos c27] at H
         have c27b0 : ((rd_T94 l0 x4_1).f0) = true := c27
         clear c27
         (first | rw [c27b0] | (simp only [i64_w, i32_w]; rw [c27b0]) | skip)
         obtain ⟨y240, hy240⟩ : ∃ y_ : List Int, y_ = (y239.set (x4_1 : Int).toNat 0) := ⟨_, rfl⟩
         replace H : (impl_MachineOk.j2 kj10 l0 y240 x4_1 ((rd_T94 l0 x4_1).f0) ((rd_T94 l0 x4_1).f1)) = some r := by first | (rw [hy240]; with_reducible exact H) | (have H2_ := bm H; rw [hy240]; with_reducible exact H2_) | (with_reducible exact bm H) | with_reducible exact H | (rw [hy240]; exact H) | exact H
         have Ny240 := am hy240; clear hy240
         have H' := am H
         clear H
         have p28 : 0 ≤ (x4_1 : Int) := of_decide_eq_true ad
         have q28 : (x4_1 : Int) < ((x3_1.length : Int) : Int) := of_decide_eq_true ad
         obtain ⟨hx28_0, hf28_0⟩ := Kd.R_celln 0 HO_3.out (x4_1 : Int) p28 q28; replace p28 := eq_true p28; replace q28 := eq_true q28; have HP29 := Kd.R_putg HO_3.out (x4_1 : Int) 0
         go_wp2_with (first | ((with_reducible refine gate_store (t := 3) (p := 46) rfl ?_); refine store_event (t := 3) (p := 46) (v := ?vo_w30) (w1 := (w25.setCell ⟨go22, (x4_1 : Int).toNat, none⟩ (.int .i64 0))) ?hg ?ho ?hn ?hr ?_; (case ho => rfl); (case hg => rfl); (case hn => rfl); (case hr => first | (go_simp; done) | (go_simp; rfl)); intro w30 hw; have hg : w25.grownBy w30 (some go22) := (by rw [hw]; exact HP29.2); have hp_ : Kd.R (Kd.int .i64) 3 w30 w.heap.size (fun _ => True) (.slice (some ⟨go22, 0, none⟩) x3_1.length co22) y240 := (by rw [hw, Ny240.out]; exact HP29.1); clear HP29; replace BK238 := am (blk_grown (g := gb238) (o := .cells #[.bool ((rd_T94 l0 x4_1).f0), .slice A237_1 ((rd_T94 l0 x4_1).f1).length c237_1] 94 (0, 0)) (bq BK238.out) hg (Kd.R_ne HO_3.out BK238.out (by decide))); replace HO_3 := am (hp_); replace HB := am ((by rw [hw]; exact below_set (HB.out) GB22.out : Below w.heap.size w w30)); clear hg hw hp_))
         go_meet
         case rel => exact ⟨_, (y240), H', ⟨by have := HK1.out; have := HJ10.out; first | omega | exact Nat.le_refl _⟩, ⟨rq HO_3.out⟩, ⟨bq BK238.out⟩, ⟨bel1 GE238.out⟩⟩
        rw [if_neg c27] at H
        have c27b0 : ((rd_T94 l0 x4_1).f0) = false := by simpa using c27
        clear c27
        (first | rw [c27b0] | (simp only [i64_w, i32_w]; rw [c27b0]) | skip)
        have H' := am H
        clear H; go_wp2
        go_meet
        case rel => exact ⟨_, (y239), H', ⟨by have := HK1.out; have := HJ10.out; first | omega | exact Nat.le_refl _⟩, ⟨rq HO_3.out⟩, ⟨bq BK238.out⟩, ⟨bel1 GE238.out⟩⟩
       case rest =>
        clear HC23; (try clear c1); (try clear q1); (try clear c2); (try clear p2); (try clear q2); (try clear hx2); (try clear hf2); (try clear c3); (try clear c4); (try clear c4b0); (try clear c4b1); (try clear c5); (try clear c5b0); (try clear c5b1); (try clear p6); (try clear c8); (try clear c8b0); (try clear c9); (try clear c9b0); (try clear c10); (try clear c10b0); (try clear c14); (try clear c14b0); (try clear q15); (try clear c16); (try clear c19); (try clear c20); (try clear c20b0); (try clear c21); (try clear c21b0); (try clear p22); (try clear q22); (try clear hx22); (try clear hf22); (try clear c23); (try clear p23); (try clear q23); (try clear hx23); (try clear c27); (try clear c27b0); (try clear p28); (try clear q28); (try clear hx28); (try clear hf28); (try clear hcz13_0); (try clear hcz13_1); (try clear hcz17_0); (try clear hcz17_1); (try clear hcz18_0); (try clear hcz18_1); (try clear hcz26_0); (try clear hcz26_1); (try clear hfz13_0); (try clear hfz13_1); (try clear hfz17_0); (try clear hfz17_1); (try clear hfz18_0); (try clear hfz18_1); (try clear hfz26_0); (try clear hfz26_1); (try clear hx22_0); (try clear hx237_0); (try clear hx237_1); (try clear hx28_0); (try clear p2); (try clear p22); (try clear p237); (try clear p28); (try clear p6); (try clear q1); (try clear q15); (try clear q2); (try clear q22); (try clear q237); (try clear q28); obtain ⟨kq, x3_22, HA, HJ22, HO_3, BK238, HB⟩ := hcut; have hl3_22 := (Kd.R_reads' HO_3.out).1; rw [hl3_22] at HO_3
        (try simp only [hl3_22])
        (try simp only [hl3_22] at BK238)
        cases kq with
        | zero => exact absurd HA.out (by simp [impl_MachineOk.j2])
        | succ kj22 =>
         have H := HA.out; clear HA
         simp only [impl_MachineOk.j2] at H
         have H' := am H
         clear H; have hcz31_0 := bc BK238.out 0; have hcz31_1 := bc BK238.out 1; have hfz31_0 := bf BK238.out 0; have hfz31_1 := bf BK238.out 1; go_wp2
         go_loopg [50] kj22 (fun kq v50 w' => ∃ (x3_4 : List Int) (x50_4 : Int), v50 = .int .i64 x50_4 ∧ Aside0 (impl_MachineOk.l1 kq l0 x3_4 x4_1 ((rd_T94 l0 x4_1).f1) (((rd_T94 l0 x4_1).f1).length : Int) x50_4 ((rd_T94 l0 x4_1).f0) ((rd_T94 l0 x4_1).f1) = some r) ∧ Aside0 (kq ≤ kj22) ∧ Aside0 (Kd.R (Kd.int .i64) 3 w' w.heap.size (fun _ => True) (.slice (some ⟨go22, 0, none⟩) x3_22.length co22) x3_4) ∧ Aside0 (w'.heap[gb238]? = some (.cells #[.bool ((rd_T94 l0 x4_1).f0), (.slice A237_1 ((rd_T94 l0 x4_1).f1).length c237_1)] 94 (0, 0))) ∧ Aside0 (Below w.heap.size w w'))
         case atStart => exact ⟨(x3_22), (0), sq, H', ⟨Nat.le_refl _⟩, ⟨by (try simp only [hl3_22]); (with_reducible repeat (first | apply Kd.R_alloc | apply Kd.R_drewN | apply Kd.R_drew)); exact HO_3.out⟩, ⟨by (try simp only [hl3_22]); (with_reducible repeat (first | refine blk_drewN ?_ _ | refine blk_drew ?_ | refine blk_alloc ?_ _)); exact BK238.out⟩, ⟨bel1 GE238.out⟩⟩
         case round =>
          clear H'; (try clear c1); (try clear q1); (try clear c2); (try clear p2); (try clear q2); (try clear hx2); (try clear hf2); (try clear c3); (try clear c4); (try clear c4b0); (try clear c4b1); (try clear c5); (try clear c5b0); (try clear c5b1); (try clear p6); (try clear c8); (try clear c8b0); (try clear c9); (try clear c9b0); (try clear c10); (try clear c10b0); (try clear c14); (try clear c14b0); (try clear q15); (try clear c16); (try clear c19); (try clear c20); (try clear c20b0); (try clear c21); (try clear c21b0); (try clear p22); (try clear q22); (try clear hx22); (try clear hf22); (try clear c23); (try clear p23); (try clear q23); (try clear hx23); (try clear c27); (try clear c27b0); (try clear p28); (try clear q28); (try clear hx28); (try clear hf28); (try clear hcz13_0); (try clear hcz13_1); (try clear hcz17_0); (try clear hcz17_1); (try clear hcz18_0); (try clear hcz18_1); (try clear hcz26_0); (try clear hcz26_1); (try clear hcz31_0); (try clear hcz31_1); (try clear hfz13_0); (try clear hfz13_1); (try clear hfz17_0); (try clear hfz17_1); (try clear hfz18_0); (try clear hfz18_1); (try clear hfz26_0); (try clear hfz26_1); (try clear hfz31_0); (try clear hfz31_1); (try clear hx22_0); (try clear hx237_0); (try clear hx237_1); (try clear hx28_0); (try clear p2); (try clear p22); (try clear p23); (try clear p237); (try clear p28); (try clear p6); (try clear q1); (try clear q15); (try clear q2); (try clear q22); (try clear q23); (try clear q237); (try clear q28); obtain ⟨x3_4, x50_4, rfl, HA, HK4, HO_3, BK238, HB⟩ := hrel; have hl3_4 := (Kd.R_reads' HO_3.out).1; rw [hl3_4] at HO_3
          (try simp only [hl3_4])
          (try simp only [hl3_4] at BK238)
          cases gk with
          | zero => exact absurd HA.out (by simp [impl_MachineOk.l1])
          | succ k4 =>
           have H := HA.out; clear HA
           simp only [impl_MachineOk.l1] at H
           by_cases c32 : x50_4 < (((rd_T94 l0 x4_1).f1).length : Int)
           ·rw [if_pos c32] at H; have c32b0 := decide_eq_true c32; clear c32
            replace H := it H; obtain ⟨c33b0, H⟩ := H
            replace H := it H; obtain ⟨c34b0, H⟩ := H; have HC35 := am H; clear H
            have p241 : 0 ≤ (x50_4 : Int) := of_decide_eq_true ad
            have q241 : x50_4 < (((rd_T94 l0 x4_1).f1).length : Int) := of_decide_eq_true ad
            obtain ⟨ad241, e241, hx241_0, hx241_1⟩ := at_T100 HR237_1.out x50_4 p241 q241
            cases e241
            replace hx241_0 := kp HB.out hx241_0; replace hx241_1 := kp HB.out hx241_1; replace p241 := eq_true p241; replace q241 := eq_true q241
            go_upto_region 16 with (first | ((with_reducible refine gate_dst (N := 7) rfl ?_); (try (refine gate_guard (by rfl) ?_; dsimp only)); refine bx 7 (cs := #[.int .i64 0, .int .i64 0]) (t := 100) ?_; intro gb242 hg w36 hbox hb; replace HO_3 := am (Kd.R_below (rq HO_3.out) hb); have BK242 := am (hbox); have GW242 := am ((by rw [hg]; exact (below_size (bel1 GE238.out)) : w.heap.size ≤ gb242)); have GE242 := am ((by rw [hg]; exact (below_size (bel1 GE238.out)) : w.heap.size ≤ gb242)); replace HB := am (below_step (bel1 GE238.out) hb); have NB238_242 := am ((by rw [hg]; exact Nat.ne_of_lt (blk_lt (g := gb238) (o := .cells #[.bool ((rd_T94 l0 x4_1).f0), .slice (some ad241) ((rd_T94 l0 x4_1).f1).length c237_1] 94 (0, 0)) (bq BK238.out)) : gb238 ≠ gb242)); have NB242_238 := am ((by rw [hg]; exact Nat.ne_of_gt (blk_lt (g := gb238) (o := .cells #[.bool ((rd_T94 l0 x4_1).f0), .slice (some ad241) ((rd_T94 l0 x4_1).f1).length c237_1] 94 (0, 0)) (bq BK238.out)) : gb242 ≠ gb238)); replace BK238 := am (blk_below (g := gb238) (o := .cells #[.bool ((rd_T94 l0 x4_1).f0), .slice (some ad241) ((rd_T94 l0 x4_1).f1).length c237_1] 94 (0, 0)) (bq BK238.out) hb); clear hb hbox hg; have hnb37 := NB242_238.out; have hnc37 := NB238_242.out; have hcz38_0 := bc BK242.out 0; have hcz38_1 := bc BK242.out 1; have hfz38_0 := bf BK242.out 0; have hfz38_1 := bf BK242.out 1))
            (try simp only [Act.put, List.setIfInBounds_toArray, List.set_cons_zero, List.set_cons_succ])
            go_cut [85] (fun v85 wc => ∃ (kq : Nat) (x85_34 : Bool), v85 = .bool x85_34 ∧ Aside0 (impl_MachineOk.j4 kq l0 x3_4 x4_1 ((rd_T94 l0 x4_1).f1) (((rd_T94 l0 x4_1).f1).length : Int) x50_4 x85_34 ((rd_T94 l0 x4_1).f0) ((rd_T94 l0 x4_1).f1) ((rd_T100 ((rd_T94 l0 x4_1).f1) x50_4).f0) ((rd_T100 ((rd_T94 l0 x4_1).f1) x50_4).f1) = some r) ∧ Aside0 (kq ≤ k4) ∧ Aside0 (Kd.R (Kd.int .i64) 3 wc w.heap.size (fun _ => True) (.slice (some ⟨go22, 0, none⟩) x3_4.length co22) x3_4) ∧ Aside0 (wc.heap[gb238]? = some (.cells #[.bool ((rd_T94 l0 x4_1).f0), (.slice (some ad241) ((rd_T94 l0 x4_1).f1).length c237_1)] 94 (0, 0))) ∧ Aside0 (wc.heap[gb242]? = some (.cells #[.int .i64 ((rd_T100 ((rd_T94 l0 x4_1).f1) x50_4).f0), .int .i64 ((rd_T100 ((rd_T94 l0 x4_1).f1) x50_4).f1)] 100 (0, 0))) ∧ Aside0 (Below w.heap.size w wc))
            case first =>
             have H := HC35.out; clear HC35; replace H := bs H; obtain ⟨t243, A390, H⟩ := H; replace H : (if t243 = true then (if x50_4 > 0 then (if 0 ≤ (wrap64 (x50_4 - 1)) then (if (wrap64 (x50_4 - 1)) < (((rd_T94 l0 x4_1).f1).length : Int) then (if ((rd_T100 ((rd_T94 l0 x4_1).f1) (wrap64 (x50_4 - 1))).f0) ≥ ((rd_T100 ((rd_T94 l0 x4_1).f1) x50_4).f0) then (impl_MachineOk.j4 k4 l0 x3_4 x4_1 ((rd_T94 l0 x4_1).f1) (((rd_T94 l0 x4_1).f1).length : Int) x50_4 true ((rd_T94 l0 x4_1).f0) ((rd_T94 l0 x4_1).f1) ((rd_T100 ((rd_T94 l0 x4_1).f1) x50_4).f0) ((rd_T100 ((rd_T94 l0 x4_1).f1) x50_4).f1)) else ((impl_within.f ((rd_T100 ((rd_T94 l0 x4_1).f1) x50_4).f1) (wrap64 (x4_1 + 1)) (wrap64 ((l0.length : Int) - 1))).bind fun t245 => (impl_MachineOk.j4 k4 l0 x3_4 x4_1 ((rd_T94 l0 x4_1).f1) (((rd_T94 l0 x4_1).f1).length : Int) x50_4 (!t245) ((rd_T94 l0 x4_1).f0) ((rd_T94 l0 x4_1).f1) ((rd_T100 ((rd_T94 l0 x4_1).f1) x50_4).f0) ((rd_T100 ((rd_T94 l0 x4_1).f1) x50_4).f1)))) else (none)) else (none)) else ((impl_within.f ((rd_T100 ((rd_T94 l0 x4_1).f1) x50_4).f1) (wrap64 (x4_1 + 1)) (wrap64 ((l0.length : Int) - 1))).bind fun t246 => (impl_MachineOk.j4 k4 l0 x3_4 x4_1 ((rd_T94 l0 x4_1).f1) (((rd_T94 l0 x4_1).f1).length : Int) x50_4 (!t246) ((rd_T94 l0 x4_1).f0) ((rd_T94 l0 x4_1).f1) ((rd_T100 ((rd_T94 l0 x4_1).f1) x50_4).f0) ((rd_T100 ((rd_T94 l0 x4_1).f1) x50_4).f1)))) else (impl_MachineOk.j4 k4 l0 x3_4 x4_1 ((rd_T94 l0 x4_1).f1) (((rd_T94 l0 x4_1).f1).length : Int) x50_4 true ((rd_T94 l0 x4_1).f0) ((rd_T94 l0 x4_1).f1) ((rd_T100 ((rd_T94 l0 x4_1).f1) x50_4).f0) ((rd_T100 ((rd_T94 l0 x4_1).f1) x50_4).f1))) = some r := H; have A39 := Aside0.mk A390; clear A390
             by_cases c40 : t243 = true
             ·subst c40
              have H1 : (if x50_4 > 0 then (if 0 ≤ (wrap64 (x50_4 - 1)) then (if (wrap64 (x50_4 - 1)) < (((rd_T94 l0 x4_1).f1).length : Int) then (if ((rd_T100 ((rd_T94 l0 x4_1).f1) (wrap64 (x50_4 - 1))).f0) ≥ ((rd_T100 ((rd_T94 l0 x4_1).f1) x50_4).f0) then (impl_MachineOk.j4 k4 l0 x3_4 x4_1 ((rd_T94 l0 x4_1).f1) (((rd_T94 l0 x4_1).f1).length : Int) x50_4 true ((rd_T94 l0 x4_1).f0) ((rd_T94 l0 x4_1).f1) ((rd_T100 ((rd_T94 l0 x4_1).f1) x50_4).f0) ((rd_T100 ((rd_T94 l0 x4_1).f1) x50_4).f1)) else ((impl_within.f ((rd_T100 ((rd_T94 l0 x4_1).f1) x50_4).f1) (wrap64 (x4_1 + 1)) (wrap64 ((l0.length : Int) - 1))).bind fun t245 => (impl_MachineOk.j4 k4 l0 x3_4 x4_1 ((rd_T94 l0 x4_1).f1) (((rd_T94 l0 x4_1).f1).length : Int) x50_4 (!t245) ((rd_T94 l0 x4_1).f0) ((rd_T94 l0 x4_1).f1) ((rd_T100 ((rd_T94 l0 x4_1).f1) x50_4).f0) ((rd_T100 ((rd_T94 l0 x4_1).f1) x50_4).f1)))) else (none)) else (none)) else ((impl_within.f ((rd_T100 ((rd_T94 l0 x4_1).f1) x50_4).f1) (wrap64 (x4_1 + 1)) (wrap64 ((l0.length : Int) - 1))).bind fun t246 => (impl_MachineOk.j4 k4 l0 x3_4 x4_1 ((rd_T94 l0 x4_1).f1) (((rd_T94 l0 x4_1).f1).length : Int) x50_4 (!t246) ((rd_T94 l0 x4_1).f0) ((rd_T94 l0 x4_1).f1) ((rd_T100 ((rd_T94 l0 x4_1).f1) x50_4).f0) ((rd_T100 ((rd_T94 l0 x4_1).f1) x50_4).f1)))) = some r := b11_
              replace H := H1; clear H1
              by_cases c41 : x50_4 > 0
              ·rw [if_pos c41] at H; have c41b0 := decide_eq_true c41; clear c41
               (first | rw [c41b0] | (simp only [i64_w, i32_w]; rw [c41b0]) | skip)
               obtain ⟨ji42, hji42⟩ : ∃ j_ : Int, (wrap64 (x50_4 - 1)) = j_ := ⟨_, rfl⟩
               replace H : (if 0 ≤ (ji42) then (if (ji42) < (((rd_T94 l0 x4_1).f1).length : Int) then (if ((rd_T100 ((rd_T94 l0 x4_1).f1) (ji42)).f0) ≥ ((rd_T100 ((rd_T94 l0 x4_1).f1) x50_4).f0) then (impl_MachineOk.j4 k4 l0 x3_4 x4_1 ((rd_T94 l0 x4_1).f1) (((rd_T94 l0 x4_1).f1).length : Int) x50_4 true ((rd_T94 l0 x4_1).f0) ((rd_T94 l0 x4_1).f1) ((rd_T100 ((rd_T94 l0 x4_1).f1) x50_4).f0) ((rd_T100 ((rd_T94 l0 x4_1).f1) x50_4).f1)) else ((impl_within.f ((rd_T100 ((rd_T94 l0 x4_1).f1) x50_4).f1) (wrap64 (x4_1 + 1)) (wrap64 ((l0.length : Int) - 1))).bind fun t245 => (impl_MachineOk.j4 k4 l0 x3_4 x4_1 ((rd_T94 l0 x4_1).f1) (((rd_T94 l0 x4_1).f1).length : Int) x50_4 (!t245) ((rd_T94 l0 x4_1).f0) ((rd_T94 l0 x4_1).f1) ((rd_T100 ((rd_T94 l0 x4_1).f1) x50_4).f0) ((rd_T100 ((rd_T94 l0 x4_1).f1) x50_4).f1)))) else (none)) else (none)) = some r := by first | (rw [hji42] at H; exact H) | (simp only [hji42] at H ⊢; exact H)
               (try rw [hji42] at A39)
               have hji42w : (IntKind.i64.wrap (x50_4 - 1)) = ji42 := (i64_w _).trans hji42
               replace H := it H; obtain ⟨c43b0, H⟩ := H
               replace H := it H; obtain ⟨c44b0, H⟩ := H
               by_cases c45 : ((rd_T100 ((rd_T94 l0 x4_1).f1) (ji42)).f0) ≥ ((rd_T100 ((rd_T94 l0 x4_1).f1) x50_4).f0)
               ·rw [if_pos c45] at H; have c45b0 := decide_eq_true c45; clear c45
                have H' := am H
                clear H
                try go_wp2
                have n0_ : Aside0 (Kd.R (Kd.int .i64) 3 ((w36.setCell ⟨gb242, 0, none⟩ (.int .i64 ((rd_T100 ((rd_T94 l0 x4_1).f1) x50_4).f0))).setCell ⟨gb242, 1, none⟩ (.int .i64 ((rd_T100 ((rd_T94 l0 x4_1).f1) x50_4).f1))) w.heap.size (fun _ => True) (.slice (some ⟨go22, 0, none⟩) x3_4.length co22) x3_4) := ⟨rq (Kd.R_mono (Kd.R_far (p := ⟨gb242, 1, none⟩) (Kd.R_far (p := ⟨gb242, 0, none⟩) (Kd.R_types HO_3.out BK242.out (by decide)) (fun _ hk => hk.2) (.int .i64 ((rd_T100 ((rd_T94 l0 x4_1).f1) x50_4).f0))) (fun _ hk => hk.2) (.int .i64 ((rd_T100 ((rd_T94 l0 x4_1).f1) x50_4).f1))) (fun _ hk => trivial))⟩
                have n1_ : Aside0 (((w36.setCell ⟨gb242, 0, none⟩ (.int .i64 ((rd_T100 ((rd_T94 l0 x4_1).f1) x50_4).f0))).setCell ⟨gb242, 1, none⟩ (.int .i64 ((rd_T100 ((rd_T94 l0 x4_1).f1) x50_4).f1))).heap[gb238]? = some (.cells #[.bool ((rd_T94 l0 x4_1).f0), .slice (some ad241) ((rd_T94 l0 x4_1).f1).length c237_1] 94 (0, 0))) := ⟨b4_⟩
                have n2_ : Aside0 (((w36.setCell ⟨gb242, 0, none⟩ (.int .i64 ((rd_T100 ((rd_T94 l0 x4_1).f1) x50_4).f0))).setCell ⟨gb242, 1, none⟩ (.int .i64 ((rd_T100 ((rd_T94 l0 x4_1).f1) x50_4).f1))).heap[gb242]? = some (.cells #[.int .i64 ((rd_T100 ((rd_T94 l0 x4_1).f1) x50_4).f0), .int .i64 ((rd_T100 ((rd_T94 l0 x4_1).f1) x50_4).f1)] 100 (0, 0))) := ⟨b2_⟩
                have n3_ : Aside0 (Below w.heap.size w ((w36.setCell ⟨gb242, 0, none⟩ (.int .i64 ((rd_T100 ((rd_T94 l0 x4_1).f1) x50_4).f0))).setCell ⟨gb242, 1, none⟩ (.int .i64 ((rd_T100 ((rd_T94 l0 x4_1).f1) x50_4).f1)))) := ⟨bel2 GE238.out GE242.out⟩
                (try clear HO_3)
                (try clear BK238)
                (try clear BK242)
                (try clear HB)
                generalize ((w36.setCell ⟨gb242, 0, none⟩ (.int .i64 ((rd_T100 ((rd_T94 l0 x4_1).f1) x50_4).f0))).setCell ⟨gb242, 1, none⟩ (.int .i64 ((rd_T100 ((rd_T94 l0 x4_1).f1) x50_4).f1))) = w46 at n0_ n1_ n2_ n3_ ⊢
                have HO_3 := n0_; have BK238 := n1_; have BK242 := n2_; have HB := n3_; clear n0_ n1_ n2_ n3_; replace HO_3 := am (Kd.R_drew HO_3.out); replace BK238 := am (blk_drew BK238.out); replace BK242 := am (blk_drew BK242.out); replace HB := am (below_drew1 HB.out)
                have p244 : 0 ≤ ((ji42) : Int) := of_decide_eq_true ad
                have q244 : (ji42) < (((rd_T94 l0 x4_1).f1).length : Int) := of_decide_eq_true ad
                obtain ⟨ad244, e244, hx244_0, hx244_1⟩ := at_T100 HR237_1.out (ji42) p244 q244; have hw244_1 := hx244_1; have hw244_0 := hx244_0
                obtain rfl : ad241 = ad244 := (by injection e244)
                replace hx244_0 := kp HB.out hx244_0; replace hx244_1 := kp HB.out hx244_1; replace p244 := eq_true p244; replace q244 := eq_true q244
                refine st (n := 31) (S := fun w' => w'.cell? ⟨gb242, 0, none⟩ = some (.int .i64 ((rd_T100 ((rd_T94 l0 x4_1).f1) x50_4).f0)) ∧ w'.cell? ⟨gb242, 1, none⟩ = some (.int .i64 ((rd_T100 ((rd_T94 l0 x4_1).f1) x50_4).f1)) ∧ w'.cell? ⟨gb238, 0, none⟩ = some (.bool ((rd_T94 l0 x4_1).f0)) ∧ w'.cell? ⟨gb238, 1, none⟩ = some (.slice (some ad241) ((rd_T94 l0 x4_1).f1).length c237_1) ∧ w'.cell? (ad241.add (((ji42)).toNat * 2)) = some (.int .i64 ((rd_T100 ((rd_T94 l0 x4_1).f1) (ji42)).f0)) ∧ w'.cell? ⟨(ad241.add (((ji42)).toNat * 2)).block, (ad241.add (((ji42)).toNat * 2)).off + 1, none⟩ = some (.int .i64 ((rd_T100 ((rd_T94 l0 x4_1).f1) (ji42)).f1))) (ds := []) ⟨(blk_cell BK242.out 0).trans rfl, (blk_cell BK242.out 1).trans rfl, (blk_cell BK238.out 0).trans rfl, (blk_cell BK238.out 1).trans rfl, (kp HB.out hw244_0), (kp HB.out hw244_1)⟩ (fun hHeld => ?_); refine with_tabW impl_MachineOk.tab16 impl_MachineOk.bits16 (fun HT_ HW_ => ?_)
                generalize w46.drew = w47 at HO_3 BK238 BK242 HB hx244_0 hx244_1 hHeld ⊢
                refine pu 0 55 ?_
                refine tk6 1 56 hHeld ?_
                refine on1 2 57 (fun K hK => ?_)
                refine goes_ Try.func81 (by kernel_rfl) rfl #[.int .i64 ((rd_T100 ((rd_T94 l0 x4_1).f1) x50_4).f0), .int .i64 97, .int .i64 122] (by rfl) rfl rfl mq ?_
                with_reducible refine (impl_within.calls ((rd_T100 ((rd_T94 l0 x4_1).f1) x50_4).f0) 97 122 true _ A39.out).mono ?_
                rintro e w' ⟨rfl, ⟨nd, rfl⟩⟩
                refine ⟨_, rfl, ?_⟩
                refine hK.out _ _ ⟨(blk_cell BK242.out 0).trans rfl, (blk_cell BK242.out 1).trans rfl, (blk_cell BK238.out 0).trans rfl, (blk_cell BK238.out 1).trans rfl, (kp HB.out hw244_0), (kp HB.out hw244_1)⟩ (fun hHeld => ?_)
                clear hK K
                refine norm_ (a' := ?_) ?_ ?_
                rotate_left
                ·show Act.put _ (some 57) _ = _
                 simp only [Act.put, List.setIfInBounds_toArray, List.set_cons_zero, List.set_cons_succ, i64_w, i32_w]
                 rfl
                refine pu 3 58 ?_
                refine pu 4 59 ?_
                refine pu 5 60 ?_
                refine pu 6 61 ?_
                refine pu 7 62 ?_
                refine pu 8 63 ?_
                refine pu 10 65 ?_
                refine pu 11 66 ?_
                refine pu 15 70 ?_
                refine tk6 9 64 hHeld ?_
                refine pu 12 67 ?_
                refine pu 13 68 ?_
                refine tk6 14 69 hHeld ?_
                refine tk6 16 71 hHeld ?_
                refine pu 17 72 ?_
                refine pu 18 73 ?_
                refine pu 19 74 ?_
                refine pu 20 75 ?_
                refine puu 21 76 ?_
                refine puu 22 77 ?_
                refine puu 23 78 ?_
                refine puu 24 79 ?_
                refine puu 25 80 ?_
                refine puu 26 81 ?_
                refine puu 27 82 ?_
                refine puu 28 83 ?_
                refine puu 29 84 ?_
                refine pu 30 85 ?_
                refine done_ (done_of HT_.out (by kernel_rfl)) ?_
                try go_wp2
                go_meet
                case rel => exact ⟨_, (true), sq, H', ⟨b16_⟩, ⟨b9_⟩, ⟨b10_⟩, ⟨b13_⟩, ⟨bel2 GE238.out GE242.out⟩⟩
               rw [if_neg c45] at H; have c45b0 := decide_eq_false c45; clear c45; replace H := bs H; obtain ⟨t245, A480, H⟩ := H; replace H : (impl_MachineOk.j4 k4 l0 x3_4 x4_1 ((rd_T94 l0 x4_1).f1) (((rd_T94 l0 x4_1).f1).length : Int) x50_4 (!t245) ((rd_T94 l0 x4_1).f0) ((rd_T94 l0 x4_1).f1) ((rd_T100 ((rd_T94 l0 x4_1).f1) x50_4).f0) ((rd_T100 ((rd_T94 l0 x4_1).f1) x50_4).f1)) = some r := H; have A48 := Aside0.mk A480; clear A480
               have H' := am H
               clear H
               try go_wp2
               have n0_ : Aside0 (Kd.R (Kd.int .i64) 3 ((w36.setCell ⟨gb242, 0, none⟩ (.int .i64 ((rd_T100 ((rd_T94 l0 x4_1).f1) x50_4).f0))).setCell ⟨gb242, 1, none⟩ (.int .i64 ((rd_T100 ((rd_T94 l0 x4_1).f1) x50_4).f1))) w.heap.size (fun _ => True) (.slice (some ⟨go22, 0, none⟩) x3_4.length co22) x3_4) := ⟨rq (Kd.R_mono (Kd.R_far (p := ⟨gb242, 1, none⟩) (Kd.R_far (p := ⟨gb242, 0, none⟩) (Kd.R_types HO_3.out BK242.out (by decide)) (fun _ hk => hk.2) (.int .i64 ((rd_T100 ((rd_T94 l0 x4_1).f1) x50_4).f0))) (fun _ hk => hk.2) (.int .i64 ((rd_T100 ((rd_T94 l0 x4_1).f1) x50_4).f1))) (fun _ hk => trivial))⟩
               have n1_ : Aside0 (((w36.setCell ⟨gb242, 0, none⟩ (.int .i64 ((rd_T100 ((rd_T94 l0 x4_1).f1) x50_4).f0))).setCell ⟨gb242, 1, none⟩ (.int .i64 ((rd_T100 ((rd_T94 l0 x4_1).f1) x50_4).f1))).heap[gb238]? = some (.cells #[.bool ((rd_T94 l0 x4_1).f0), .slice (some ad241) ((rd_T94 l0 x4_1).f1).length c237_1] 94 (0, 0))) := ⟨b4_⟩
               have n2_ : Aside0 (((w36.setCell ⟨gb242, 0, none⟩ (.int .i64 ((rd_T100 ((rd_T94 l0 x4_1).f1) x50_4).f0))).setCell ⟨gb242, 1, none⟩ (.int .i64 ((rd_T100 ((rd_T94 l0 x4_1).f1) x50_4).f1))).heap[gb242]? = some (.cells #[.int .i64 ((rd_T100 ((rd_T94 l0 x4_1).f1) x50_4).f0), .int .i64 ((rd_T100 ((rd_T94 l0 x4_1).f1) x50_4).f1)] 100 (0, 0))) := ⟨b2_⟩
               have n3_ : Aside0 (Below w.heap.size w ((w36.setCell ⟨gb242, 0, none⟩ (.int .i64 ((rd_T100 ((rd_T94 l0 x4_1).f1) x50_4).f0))).setCell ⟨gb242, 1, none⟩ (.int .i64 ((rd_T100 ((rd_T94 l0 x4_1).f1) x50_4).f1)))) := ⟨bel2 GE238.out GE242.out⟩
               (try clear HO_3)
               (try clear BK238)
               (try clear BK242)
               (try clear HB)
               generalize ((w36.setCell ⟨gb242, 0, none⟩ (.int .i64 ((rd_T100 ((rd_T94 l0 x4_1).f1) x50_4).f0))).setCell ⟨gb242, 1, none⟩ (.int .i64 ((rd_T100 ((rd_T94 l0 x4_1).f1) x50_4).f1))) = w49 at n0_ n1_ n2_ n3_ ⊢
               have HO_3 := n0_; have BK238 := n1_; have BK242 := n2_; have HB := n3_; clear n0_ n1_ n2_ n3_; replace HO_3 := am (Kd.R_drew HO_3.out); replace BK238 := am (blk_drew BK238.out); replace BK242 := am (blk_drew BK242.out); replace HB := am (below_drew1 HB.out)
               have p244 : 0 ≤ ((ji42) : Int) := of_decide_eq_true ad
               have q244 : (ji42) < (((rd_T94 l0 x4_1).f1).length : Int) := of_decide_eq_true ad
               obtain ⟨ad244, e244, hx244_0, hx244_1⟩ := at_T100 HR237_1.out (ji42) p244 q244; have hw244_1 := hx244_1; have hw244_0 := hx244_0
               obtain rfl : ad241 = ad244 := (by injection e244)
               replace hx244_0 := kp HB.out hx244_0; replace hx244_1 := kp HB.out hx244_1; replace p244 := eq_true p244; replace q244 := eq_true q244
               refine st (n := 31) (S := fun w' => w'.cell? ⟨gb242, 0, none⟩ = some (.int .i64 ((rd_T100 ((rd_T94 l0 x4_1).f1) x50_4).f0)) ∧ w'.cell? ⟨gb242, 1, none⟩ = some (.int .i64 ((rd_T100 ((rd_T94 l0 x4_1).f1) x50_4).f1)) ∧ w'.cell? ⟨gb238, 0, none⟩ = some (.bool ((rd_T94 l0 x4_1).f0)) ∧ w'.cell? ⟨gb238, 1, none⟩ = some (.slice (some ad241) ((rd_T94 l0 x4_1).f1).length c237_1) ∧ w'.cell? (ad241.add (((ji42)).toNat * 2)) = some (.int .i64 ((rd_T100 ((rd_T94 l0 x4_1).f1) (ji42)).f0)) ∧ w'.cell? ⟨(ad241.add (((ji42)).toNat * 2)).block, (ad241.add (((ji42)).toNat * 2)).off + 1, none⟩ = some (.int .i64 ((rd_T100 ((rd_T94 l0 x4_1).f1) (ji42)).f1))) (ds := []) ⟨(blk_cell BK242.out 0).trans rfl, (blk_cell BK242.out 1).trans rfl, (blk_cell BK238.out 0).trans rfl, (blk_cell BK238.out 1).trans rfl, (kp HB.out hw244_0), (kp HB.out hw244_1)⟩ (fun hHeld => ?_); refine with_tabW impl_MachineOk.tab16 impl_MachineOk.bits16 (fun HT_ HW_ => ?_)
               generalize w49.drew = w50 at HO_3 BK238 BK242 HB hx244_0 hx244_1 hHeld ⊢
               refine pu 0 55 ?_
               refine tk6 1 56 hHeld ?_
               refine on1 2 57 (fun K hK => ?_)
               refine goes_ Try.func81 (by kernel_rfl) rfl #[.int .i64 ((rd_T100 ((rd_T94 l0 x4_1).f1) x50_4).f0), .int .i64 97, .int .i64 122] (by rfl) rfl rfl mq ?_
               with_reducible refine (impl_within.calls ((rd_T100 ((rd_T94 l0 x4_1).f1) x50_4).f0) 97 122 true _ A39.out).mono ?_
               rintro e w' ⟨rfl, ⟨nd, rfl⟩⟩
               refine ⟨_, rfl, ?_⟩
               refine hK.out _ _ ⟨(blk_cell BK242.out 0).trans rfl, (blk_cell BK242.out 1).trans rfl, (blk_cell BK238.out 0).trans rfl, (blk_cell BK238.out 1).trans rfl, (kp HB.out hw244_0), (kp HB.out hw244_1)⟩ (fun hHeld => ?_)
               clear hK K
               refine norm_ (a' := ?_) ?_ ?_
               rotate_left
               ·show Act.put _ (some 57) _ = _
                simp only [Act.put, List.setIfInBounds_toArray, List.set_cons_zero, List.set_cons_succ, i64_w, i32_w]
                rfl
               refine pu 3 58 ?_
               refine pu 4 59 ?_
               refine pu 5 60 ?_
               refine pu 6 61 ?_
               refine pu 7 62 ?_
               refine pu 8 63 ?_
               refine pu 10 65 ?_
               refine pu 11 66 ?_
               refine pu 15 70 ?_
               refine tk6 9 64 hHeld ?_
               refine pu 12 67 ?_
               refine pu 13 68 ?_
               refine tk6 14 69 hHeld ?_
               refine tk6 16 71 hHeld ?_
               refine pu 17 72 ?_
               refine pu 18 73 ?_
               refine pu 19 74 ?_
               refine pu 20 75 ?_
               refine pu 21 76 ?_
               refine pu 23 78 ?_
               refine pu 24 79 ?_
               refine pu 25 80 ?_
               refine pu 26 81 ?_
               refine pu 27 82 ?_
               refine tk6 22 77 hHeld ?_
               refine on1 28 83 (fun K hK => ?_)
               refine goes_ Try.func81 (by kernel_rfl) rfl #[.int .i64 ((rd_T100 ((rd_T94 l0 x4_1).f1) x50_4).f1), .int .i64 (wrap64 (x4_1 + 1)), .int .i64 (wrap64 ((l0.length : Int) - 1))] (by rfl) rfl rfl mq ?_
               with_reducible refine (impl_within.calls ((rd_T100 ((rd_T94 l0 x4_1).f1) x50_4).f1) (wrap64 (x4_1 + 1)) (wrap64 ((l0.length : Int) - 1)) t245 _ A48.out).mono ?_
               rintro e w' ⟨rfl, ⟨nd, rfl⟩⟩
               refine ⟨_, rfl, ?_⟩
               refine hK.out _ _ ⟨(blk_cell BK242.out 0).trans rfl, (blk_cell BK242.out 1).trans rfl, (blk_cell BK238.out 0).trans rfl, (blk_cell BK238.out 1).trans rfl, (kp HB.out hw244_0), (kp HB.out hw244_1)⟩ (fun hHeld => ?_)
               clear hK K
               refine norm_ (a' := ?_) ?_ ?_
               rotate_left
               ·show Act.put _ (some 83) _ = _
                simp only [Act.put, List.setIfInBounds_toArray, List.set_cons_zero, List.set_cons_succ, i64_w, i32_w]
                rfl
               refine pu 29 84 ?_
               refine pu 30 85 ?_
               refine done_ (done_of HT_.out (by kernel_rfl)) ?_
               try go_wp2
               go_meet
               case rel => exact ⟨_, (!t245), sq, H', ⟨b16_⟩, ⟨b9_⟩, ⟨b10_⟩, ⟨b13_⟩, ⟨bel2 GE238.out GE242.out⟩⟩
              rw [if_neg c41] at H; have c41b0 := decide_eq_false c41; clear c41
              (first | rw [c41b0] | (simp only [i64_w, i32_w]; rw [c41b0]) | skip)
              replace H := bs H; obtain ⟨t246, A510, H⟩ := H; replace H : (impl_MachineOk.j4 k4 l0 x3_4 x4_1 ((rd_T94 l0 x4_1).f1) (((rd_T94 l0 x4_1).f1).length : Int) x50_4 (!t246) ((rd_T94 l0 x4_1).f0) ((rd_T94 l0 x4_1).f1) ((rd_T100 ((rd_T94 l0 x4_1).f1) x50_4).f0) ((rd_T100 ((rd_T94 l0 x4_1).f1) x50_4).f1)) = some r := H; have A51 := Aside0.mk A510; clear A510
              have H' := am H
              clear H
              try go_wp2
              have n0_ : Aside0 (Kd.R (Kd.int .i64) 3 ((w36.setCell ⟨gb242, 0, none⟩ (.int .i64 ((rd_T100 ((rd_T94 l0 x4_1).f1) x50_4).f0))).setCell ⟨gb242, 1, none⟩ (.int .i64 ((rd_T100 ((rd_T94 l0 x4_1).f1) x50_4).f1))) w.heap.size (fun _ => True) (.slice (some ⟨go22, 0, none⟩) x3_4.length co22) x3_4) := ⟨rq (Kd.R_mono (Kd.R_far (p := ⟨gb242, 1, none⟩) (Kd.R_far (p := ⟨gb242, 0, none⟩) (Kd.R_types HO_3.out BK242.out (by decide)) (fun _ hk => hk.2) (.int .i64 ((rd_T100 ((rd_T94 l0 x4_1).f1) x50_4).f0))) (fun _ hk => hk.2) (.int .i64 ((rd_T100 ((rd_T94 l0 x4_1).f1) x50_4).f1))) (fun _ hk => trivial))⟩
              have n1_ : Aside0 (((w36.setCell ⟨gb242, 0, none⟩ (.int .i64 ((rd_T100 ((rd_T94 l0 x4_1).f1) x50_4).f0))).setCell ⟨gb242, 1, none⟩ (.int .i64 ((rd_T100 ((rd_T94 l0 x4_1).f1) x50_4).f1))).heap[gb238]? = some (.cells #[.bool ((rd_T94 l0 x4_1).f0), .slice (some ad241) ((rd_T94 l0 x4_1).f1).length c237_1] 94 (0, 0))) := ⟨b4_⟩
              have n2_ : Aside0 (((w36.setCell ⟨gb242, 0, none⟩ (.int .i64 ((rd_T100 ((rd_T94 l0 x4_1).f1) x50_4).f0))).setCell ⟨gb242, 1, none⟩ (.int .i64 ((rd_T100 ((rd_T94 l0 x4_1).f1) x50_4).f1))).heap[gb242]? = some (.cells #[.int .i64 ((rd_T100 ((rd_T94 l0 x4_1).f1) x50_4).f0), .int .i64 ((rd_T100 ((rd_T94 l0 x4_1).f1) x50_4).f1)] 100 (0, 0))) := ⟨b2_⟩
              have n3_ : Aside0 (Below w.heap.size w ((w36.setCell ⟨gb242, 0, none⟩ (.int .i64 ((rd_T100 ((rd_T94 l0 x4_1).f1) x50_4).f0))).setCell ⟨gb242, 1, none⟩ (.int .i64 ((rd_T100 ((rd_T94 l0 x4_1).f1) x50_4).f1)))) := ⟨bel2 GE238.out GE242.out⟩
              (try clear HO_3)
              (try clear BK238)
              (try clear BK242)
              (try clear HB)
              generalize ((w36.setCell ⟨gb242, 0, none⟩ (.int .i64 ((rd_T100 ((rd_T94 l0 x4_1).f1) x50_4).f0))).setCell ⟨gb242, 1, none⟩ (.int .i64 ((rd_T100 ((rd_T94 l0 x4_1).f1) x50_4).f1))) = w52 at n0_ n1_ n2_ n3_ ⊢
              have HO_3 := n0_; have BK238 := n1_; have BK242 := n2_; have HB := n3_; clear n0_ n1_ n2_ n3_; replace HO_3 := am (Kd.R_drew HO_3.out); replace BK238 := am (blk_drew BK238.out); replace BK242 := am (blk_drew BK242.out); replace HB := am (below_drew1 HB.out)
              refine st (n := 31) (S := fun w' => w'.cell? ⟨gb242, 0, none⟩ = some (.int .i64 ((rd_T100 ((rd_T94 l0 x4_1).f1) x50_4).f0)) ∧ w'.cell? ⟨gb242, 1, none⟩ = some (.int .i64 ((rd_T100 ((rd_T94 l0 x4_1).f1) x50_4).f1))) (ds := []) ⟨(blk_cell BK242.out 0).trans rfl, (blk_cell BK242.out 1).trans rfl⟩ (fun hHeld => ?_); refine with_tabW impl_MachineOk.tab16 impl_MachineOk.bits16 (fun HT_ HW_ => ?_)
              generalize w52.drew = w53 at HO_3 BK238 BK242 HB hHeld ⊢
              refine pu 0 55 ?_
              refine tk2 1 56 hHeld ?_
              refine on1 2 57 (fun K hK => ?_)
              refine goes_ Try.func81 (by kernel_rfl) rfl #[.int .i64 ((rd_T100 ((rd_T94 l0 x4_1).f1) x50_4).f0), .int .i64 97, .int .i64 122] (by rfl) rfl rfl mq ?_
              with_reducible refine (impl_within.calls ((rd_T100 ((rd_T94 l0 x4_1).f1) x50_4).f0) 97 122 true _ A39.out).mono ?_
              rintro e w' ⟨rfl, ⟨nd, rfl⟩⟩
              refine ⟨_, rfl, ?_⟩
              refine hK.out _ _ ⟨(blk_cell BK242.out 0).trans rfl, (blk_cell BK242.out 1).trans rfl⟩ (fun hHeld => ?_)
              clear hK K
              refine norm_ (a' := ?_) ?_ ?_
              rotate_left
              ·show Act.put _ (some 57) _ = _
               simp only [Act.put, List.setIfInBounds_toArray, List.set_cons_zero, List.set_cons_succ, i64_w, i32_w]
               rfl
              refine pu 3 58 ?_
              refine pu 4 59 ?_
              refine pu 5 60 ?_
              refine pu 6 61 ?_
              refine pu 7 62 ?_
              refine puu 8 63 ?_
              refine puu 9 64 ?_
              refine puu 10 65 ?_
              refine puu 11 66 ?_
              refine puu 12 67 ?_
              refine puu 13 68 ?_
              refine puu 14 69 ?_
              refine puu 15 70 ?_
              refine puu 16 71 ?_
              refine puu 17 72 ?_
              refine pu 18 73 ?_
              refine pu 19 74 ?_
              refine pu 20 75 ?_
              refine pu 21 76 ?_
              refine pu 23 78 ?_
              refine pu 24 79 ?_
              refine pu 25 80 ?_
              refine pu 26 81 ?_
              refine pu 27 82 ?_
              refine tk2 22 77 hHeld ?_
              refine on1 28 83 (fun K hK => ?_)
              refine goes_ Try.func81 (by kernel_rfl) rfl #[.int .i64 ((rd_T100 ((rd_T94 l0 x4_1).f1) x50_4).f1), .int .i64 (wrap64 (x4_1 + 1)), .int .i64 (wrap64 ((l0.length : Int) - 1))] (by rfl) rfl rfl mq ?_
              with_reducible refine (impl_within.calls ((rd_T100 ((rd_T94 l0 x4_1).f1) x50_4).f1) (wrap64 (x4_1 + 1)) (wrap64 ((l0.length : Int) - 1)) t246 _ A51.out).mono ?_
              rintro e w' ⟨rfl, ⟨nd, rfl⟩⟩
              refine ⟨_, rfl, ?_⟩
              refine hK.out _ _ ⟨(blk_cell BK242.out 0).trans rfl, (blk_cell BK242.out 1).trans rfl⟩ (fun hHeld => ?_)
              clear hK K
              refine norm_ (a' := ?_) ?_ ?_
              rotate_left
              ·show Act.put _ (some 83) _ = _
               simp only [Act.put, List.setIfInBounds_toArray, List.set_cons_zero, List.set_cons_succ, i64_w, i32_w]
               rfl
              refine pu 29 84 ?_
              refine pu 30 85 ?_
              refine done_ (done_of HT_.out (by kernel_rfl)) ?_
              try go_wp2
              go_meet
              case rel => exact ⟨_, (!t246), sq, H', ⟨b16_⟩, ⟨b9_⟩, ⟨b10_⟩, ⟨b13_⟩, ⟨bel2 GE238.out GE242.out⟩⟩
             replace c40 := Bool.eq_false_iff.mpr c40; subst c40
             have H1 : (impl_MachineOk.j4 k4 l0 x3_4 x4_1 ((rd_T94 l0 x4_1).f1) (((rd_T94 l0 x4_1).f1).length : Int) x50_4 true ((rd_T94 l0 x4_1).f0) ((rd_T94 l0 x4_1).f1) ((rd_T100 ((rd_T94 l0 x4_1).f1) x50_4).f0) ((rd_T100 ((rd_T94 l0 x4_1).f1) x50_4).f1)) = some r := b5_
             replace H := H1; clear H1
             have H' := am H
             clear H
             try go_wp2
             have n0_ : Aside0 (Kd.R (Kd.int .i64) 3 ((w36.setCell ⟨gb242, 0, none⟩ (.int .i64 ((rd_T100 ((rd_T94 l0 x4_1).f1) x50_4).f0))).setCell ⟨gb242, 1, none⟩ (.int .i64 ((rd_T100 ((rd_T94 l0 x4_1).f1) x50_4).f1))) w.heap.size (fun _ => True) (.slice (some ⟨go22, 0, none⟩) x3_4.length co22) x3_4) := ⟨rq (Kd.R_mono (Kd.R_far (p := ⟨gb242, 1, none⟩) (Kd.R_far (p := ⟨gb242, 0, none⟩) (Kd.R_types HO_3.out BK242.out (by decide)) (fun _ hk => hk.2) (.int .i64 ((rd_T100 ((rd_T94 l0 x4_1).f1) x50_4).f0))) (fun _ hk => hk.2) (.int .i64 ((rd_T100 ((rd_T94 l0 x4_1).f1) x50_4).f1))) (fun _ hk => trivial))⟩
             have n1_ : Aside0 (((w36.setCell ⟨gb242, 0, none⟩ (.int .i64 ((rd_T100 ((rd_T94 l0 x4_1).f1) x50_4).f0))).setCell ⟨gb242, 1, none⟩ (.int .i64 ((rd_T100 ((rd_T94 l0 x4_1).f1) x50_4).f1))).heap[gb238]? = some (.cells #[.bool ((rd_T94 l0 x4_1).f0), .slice (some ad241) ((rd_T94 l0 x4_1).f1).length c237_1] 94 (0, 0))) := ⟨b4_⟩
             have n2_ : Aside0 (((w36.setCell ⟨gb242, 0, none⟩ (.int .i64 ((rd_T100 ((rd_T94 l0 x4_1).f1) x50_4).f0))).setCell ⟨gb242, 1, none⟩ (.int .i64 ((rd_T100 ((rd_T94 l0 x4_1).f1) x50_4).f1))).heap[gb242]? = some (.cells #[.int .i64 ((rd_T100 ((rd_T94 l0 x4_1).f1) x50_4).f0), .int .i64 ((rd_T100 ((rd_T94 l0 x4_1).f1) x50_4).f1)] 100 (0, 0))) := ⟨b2_⟩
             have n3_ : Aside0 (Below w.heap.size w ((w36.setCell ⟨gb242, 0, none⟩ (.int .i64 ((rd_T100 ((rd_T94 l0 x4_1).f1) x50_4).f0))).setCell ⟨gb242, 1, none⟩ (.int .i64 ((rd_T100 ((rd_T94 l0 x4_1).f1) x50_4).f1)))) := ⟨bel2 GE238.out GE242.out⟩
             (try clear HO_3)
             (try clear BK238)
             (try clear BK242)
             (try clear HB)
             generalize ((w36.setCell ⟨gb242, 0, none⟩ (.int .i64 ((rd_T100 ((rd_T94 l0 x4_1).f1) x50_4).f0))).setCell ⟨gb242, 1, none⟩ (.int .i64 ((rd_T100 ((rd_T94 l0 x4_1).f1) x50_4).f1))) = w54 at n0_ n1_ n2_ n3_ ⊢
             have HO_3 := n0_; have BK238 := n1_; have BK242 := n2_; have HB := n3_; clear n0_ n1_ n2_ n3_; replace HO_3 := am (Kd.R_drew HO_3.out); replace BK238 := am (blk_drew BK238.out); replace BK242 := am (blk_drew BK242.out); replace HB := am (below_drew1 HB.out)
             refine st (n := 31) (S := fun w' => w'.cell? ⟨gb242, 0, none⟩ = some (.int .i64 ((rd_T100 ((rd_T94 l0 x4_1).f1) x50_4).f0)) ∧ w'.cell? ⟨gb242, 1, none⟩ = some (.int .i64 ((rd_T100 ((rd_T94 l0 x4_1).f1) x50_4).f1))) (ds := []) ⟨(blk_cell BK242.out 0).trans rfl, (blk_cell BK242.out 1).trans rfl⟩ (fun hHeld => ?_); refine with_tabW impl_MachineOk.tab16 impl_MachineOk.bits16 (fun HT_ HW_ => ?_)
             generalize w54.drew = w55 at HO_3 BK238 BK242 HB hHeld ⊢
             refine pu 0 55 ?_
             refine tk2 1 56 hHeld ?_
             refine on1 2 57 (fun K hK => ?_)
             refine goes_ Try.func81 (by kernel_rfl) rfl #[.int .i64 ((rd_T100 ((rd_T94 l0 x4_1).f1) x50_4).f0), .int .i64 97, .int .i64 122] (by rfl) rfl rfl mq ?_
             with_reducible refine (impl_within.calls ((rd_T100 ((rd_T94 l0 x4_1).f1) x50_4).f0) 97 122 false _ A39.out).mono ?_
             rintro e w' ⟨rfl, ⟨nd, rfl⟩⟩
             refine ⟨_, rfl, ?_⟩
             refine hK.out _ _ ⟨(blk_cell BK242.out 0).trans rfl, (blk_cell BK242.out 1).trans rfl⟩ (fun hHeld => ?_)
             clear hK K
             refine norm_ (a' := ?_) ?_ ?_
             rotate_left
             ·show Act.put _ (some 57) _ = _
              simp only [Act.put, List.setIfInBounds_toArray, List.set_cons_zero, List.set_cons_succ, i64_w, i32_w]
              rfl
             refine pu 3 58 ?_
             refine pu 4 59 ?_
             refine puu 5 60 ?_
             refine puu 6 61 ?_
             refine puu 7 62 ?_
             refine puu 8 63 ?_
             refine puu 9 64 ?_
             refine puu 10 65 ?_
             refine puu 11 66 ?_
             refine puu 12 67 ?_
             refine puu 13 68 ?_
             refine puu 14 69 ?_
             refine puu 15 70 ?_
             refine puu 16 71 ?_
             refine puu 17 72 ?_
             refine puu 18 73 ?_
             refine pu 19 74 ?_
             refine pu 20 75 ?_
             refine puu 21 76 ?_
             refine puu 22 77 ?_
             refine puu 23 78 ?_
             refine puu 24 79 ?_
             refine puu 25 80 ?_
             refine puu 26 81 ?_
             refine puu 27 82 ?_
             refine puu 28 83 ?_
             refine puu 29 84 ?_
             refine pu 30 85 ?_
             refine done_ (done_of HT_.out (by kernel_rfl)) ?_
             try go_wp2
             go_meet
             case rel => exact ⟨_, (true), sq, H', ⟨b16_⟩, ⟨b9_⟩, ⟨b10_⟩, ⟨b13_⟩, ⟨bel2 GE238.out GE242.out⟩⟩
            case rest =>
             clear HC35; (try clear c2); (try clear p2); (try clear c4); (try clear p6); (try clear c8); (try clear c23); (try clear c40); (try clear c41); (try clear c41b0); (try clear c43); (try clear c44); obtain ⟨kq, x85_34, rfl, HA, HJ34, HO_3, BK238, BK242, HB⟩ := hcut
             cases kq with
             | zero => exact absurd HA.out (by simp [impl_MachineOk.j4])
             | succ kj34 =>
              have H := HA.out; clear HA
              simp only [impl_MachineOk.j4] at H
              by_cases c56 : x85_34 = true
              ·subst c56
               have H1 : (some false) = some r := b11_
               replace H := H1; clear H1
               obtain rfl := Option.some.inj H; go_wp2; go_ret
               exact ⟨eq_, bel2 GE238.out GE242.out⟩
              replace c56 := Bool.eq_false_iff.mpr c56; subst c56
              have H1 : (if 0 ≤ ((rd_T100 ((rd_T94 l0 x4_1).f1) x50_4).f1) then (if ((rd_T100 ((rd_T94 l0 x4_1).f1) x50_4).f1) < (x3_4.length : Int) then (if (rd x3_4 ((rd_T100 ((rd_T94 l0 x4_1).f1) x50_4).f1)) ≥ 0 then (if 0 ≤ x4_1 then (if x4_1 < (x3_4.length : Int) then (impl_MachineOk.l1 kj34 l0 (x3_4.set (x4_1 : Int).toNat (mx (rd x3_4 x4_1) (wrap64 ((rd x3_4 ((rd_T100 ((rd_T94 l0 x4_1).f1) x50_4).f1)) + 1)))) x4_1 ((rd_T94 l0 x4_1).f1) (((rd_T94 l0 x4_1).f1).length : Int) (wrap64 (x50_4 + 1)) ((rd_T94 l0 x4_1).f0) ((rd_T94 l0 x4_1).f1)) else (none)) else (none)) else (impl_MachineOk.l1 kj34 l0 x3_4 x4_1 ((rd_T94 l0 x4_1).f1) (((rd_T94 l0 x4_1).f1).length : Int) (wrap64 (x50_4 + 1)) ((rd_T94 l0 x4_1).f0) ((rd_T94 l0 x4_1).f1))) else (none)) else (none)) = some r := b5_
              replace H := H1; clear H1
              replace H := it H; obtain ⟨c57b0, H⟩ := H
              replace H := it H; obtain ⟨c58b0, H⟩ := H
              by_cases c59 : (rd x3_4 ((rd_T100 ((rd_T94 l0 x4_1).f1) x50_4).f1)) ≥ 0
              ·rw [if_pos c59] at H; have c59b0 := decide_eq_true c59; clear c59
               replace H := it H; obtain ⟨c60b0, H⟩ := H
               replace H := it H; obtain ⟨c61b0, H⟩ := H; obtain ⟨ji62, hji62⟩ : ∃ j_ : Int, (mx (rd x3_4 x4_1) (wrap64 ((rd x3_4 ((rd_T100 ((rd_T94 l0 x4_1).f1) x50_4).f1)) + 1))) = j_ := ⟨_, rfl⟩
               replace H : (impl_MachineOk.l1 kj34 l0 (x3_4.set (x4_1 : Int).toNat (ji62)) x4_1 ((rd_T94 l0 x4_1).f1) (((rd_T94 l0 x4_1).f1).length : Int) (wrap64 (x50_4 + 1)) ((rd_T94 l0 x4_1).f0) ((rd_T94 l0 x4_1).f1)) = some r := by first | (rw [hji62] at H; exact H) | (simp only [hji62] at H ⊢; exact H)
               have hji62_ : (if (rd x3_4 x4_1) < (wrap64 ((rd x3_4 ((rd_T100 ((rd_T94 l0 x4_1).f1) x50_4).f1)) + 1)) then (wrap64 ((rd x3_4 ((rd_T100 ((rd_T94 l0 x4_1).f1) x50_4).f1)) + 1)) else (rd x3_4 x4_1)) = ji62 := hji62
               obtain ⟨y250, hy250⟩ : ∃ y_ : List Int, y_ = (x3_4.set (x4_1 : Int).toNat (ji62)) := ⟨_, rfl⟩
               replace H : (impl_MachineOk.l1 kj34 l0 y250 x4_1 ((rd_T94 l0 x4_1).f1) (((rd_T94 l0 x4_1).f1).length : Int) (wrap64 (x50_4 + 1)) ((rd_T94 l0 x4_1).f0) ((rd_T94 l0 x4_1).f1)) = some r := by first | (rw [hy250]; with_reducible exact H) | (have H2_ := bm H; rw [hy250]; with_reducible exact H2_) | (with_reducible exact bm H) | with_reducible exact H | (rw [hy250]; exact H) | exact H
               have Ny250 := am hy250; clear hy250
               have H' := am H
               clear H; have hnb64 := NB242_238.out; have hnc64 := NB238_242.out
               have hcz65_0 : wc.cell? ⟨gb242, 0, none⟩ = some (.int .i64 ((rd_T100 ((rd_T94 l0 x4_1).f1) x50_4).f0)) := (blk_cell BK242.out 0).trans rfl
               have hcz65_1 : wc.cell? ⟨gb242, 1, none⟩ = some (.int .i64 ((rd_T100 ((rd_T94 l0 x4_1).f1) x50_4).f1)) := (blk_cell BK242.out 1).trans rfl
               have hfz65_0 := bf BK242.out 0; have hfz65_1 := bf BK242.out 1
               have p247 : 0 ≤ (((rd_T100 ((rd_T94 l0 x4_1).f1) x50_4).f1) : Int) := of_decide_eq_true ad
               have q247 : ((rd_T100 ((rd_T94 l0 x4_1).f1) x50_4).f1) < (x3_4.length : Int) := of_decide_eq_true ad
               obtain ⟨ad247, e247, hx247_0⟩ := Kd.at_int (Kd.R_reads' HO_3.out).2.2 ((rd_T100 ((rd_T94 l0 x4_1).f1) x50_4).f1) p247 q247
               obtain rfl : (⟨go22, 0, none⟩ : Addr) = ad247 := (by injection e247)
               (first | simp only [add_plain] at hx247_0 | simp only [add_at] at hx247_0 | simp only [Addr.add, Nat.zero_add] at hx247_0 | skip)
               replace p247 := eq_true p247; replace q247 := eq_true q247
               try go_wp2
               replace HO_3 := am (Kd.R_drew HO_3.out); replace BK238 := am (blk_drew BK238.out); replace BK242 := am (blk_drew BK242.out); replace HB := am (below_drew1 HB.out)
               have p248 : 0 ≤ (x4_1 : Int) := of_decide_eq_true ad
               have q248 : x4_1 < (x3_4.length : Int) := of_decide_eq_true ad
               obtain ⟨ad248, e248, hx248_0⟩ := Kd.at_int (Kd.R_reads' HO_3.out).2.2 x4_1 p248 q248
               obtain rfl : (⟨go22, 0, none⟩ : Addr) = ad248 := (by injection e248)
               (first | simp only [add_plain] at hx248_0 | simp only [add_at] at hx248_0 | simp only [Addr.add, Nat.zero_add] at hx248_0 | skip)
               replace p248 := eq_true p248; replace q248 := eq_true q248
               have p249 : 0 ≤ (((rd_T100 ((rd_T94 l0 x4_1).f1) x50_4).f1) : Int) := of_decide_eq_true ad
               have q249 : ((rd_T100 ((rd_T94 l0 x4_1).f1) x50_4).f1) < (x3_4.length : Int) := of_decide_eq_true ad
               obtain ⟨ad249, e249, hx249_0⟩ := Kd.at_int (Kd.R_reads' HO_3.out).2.2 ((rd_T100 ((rd_T94 l0 x4_1).f1) x50_4).f1) p249 q249
               obtain rfl : (⟨go22, 0, none⟩ : Addr) = ad249 := (by injection e249)
               (first | simp only [add_plain] at hx249_0 | simp only [add_at] at hx249_0 | simp only [Addr.add, Nat.zero_add] at hx249_0 | skip)
               replace p249 := eq_true p249; replace q249 := eq_true q249
               have p63 : 0 ≤ (x4_1 : Int) := of_decide_eq_true ad
               have q63 : (x4_1 : Int) < ((x3_4.length : Int) : Int) := of_decide_eq_true ad
               obtain ⟨hx63_0, hf63_0⟩ := Kd.R_celln 0 HO_3.out (x4_1 : Int) p63 q63; replace p63 := eq_true p63; replace q63 := eq_true q63; have HP67 := Kd.R_putn HO_3.out (x4_1 : Int) ji62; rw [← Ny250.out] at HP67; have HQ67 := am HP67; clear HP67
               refine start_ (n := 15) (S := fun w' => w'.cell? ⟨gb242, 0, none⟩ = some (.int .i64 ((rd_T100 ((rd_T94 l0 x4_1).f1) x50_4).f0)) ∧ w'.cell? ⟨gb242, 1, none⟩ = some (.int .i64 ((rd_T100 ((rd_T94 l0 x4_1).f1) x50_4).f1)) ∧ w'.cell? ⟨go22, (x4_1).toNat, none⟩ = some (.int .i64 (rd x3_4 x4_1)) ∧ w'.cell? ⟨go22, (((rd_T100 ((rd_T94 l0 x4_1).f1) x50_4).f1)).toNat, none⟩ = some (.int .i64 (rd x3_4 ((rd_T100 ((rd_T94 l0 x4_1).f1) x50_4).f1)))) (ds := [14]) #[false, false, false, false, false, false, false, false, false, false, false, false, false, false, false] (by kernel_rfl) rfl rfl ⟨(blk_cell BK242.out 0).trans rfl, (blk_cell BK242.out 1).trans rfl, hx248_0, hx249_0⟩ (fun hHeld => ?_); refine with_tabW impl_MachineOk.tab19 impl_MachineOk.bits19 (fun HT_ HW_ => ?_)
               generalize wc.drew = w66 at HO_3 BK238 BK242 HB HQ67 hf63_0 hx248_0 hx249_0 hx63_0 hHeld ⊢
               refine pu 0 92 ?_
               refine pu 1 93 ?_
               refine pu 2 94 ?_
               refine pu 3 95 ?_
               refine pu 4 96 ?_
               refine pu 6 98 ?_
               refine pu 7 99 ?_
               refine tk4 5 97 hHeld ?_
               refine tk4 8 100 hHeld ?_
               refine pu 9 101 ?_
               refine tk4 10 102 hHeld ?_
               refine pu 11 103 ?_
               refine pu 12 104 ?_
               refine pu 13 105 ?_
               refine last_ (i := 14) (N := none) #[true, true, true, true, true, true, true, true, true, true, true, true, true, true, true] rfl rfl (one_of HT_.out (by kernel_rfl)) (by decide) (fun K hK => ?_)
               refine skip_ (w1 := ?_) (by rfl) rfl ?_ ?_
               rotate_left
               ·go_simp
                rfl
               refine hK.out _ _ ?_
               clear hK K
               refine done_ (done_of HT_.out (by kernel_rfl)) ?_
               try go_wp2
               (try simp only [← hl3_4])
               go_roundg kj34
               case measure => have := HK1.out; have := HJ10.out; have := HJ22.out; have := HK4.out; have := HJ34.out; omega
               case rel => exact ⟨(y250), (wrap64 (x50_4 + 1)), sq, H', ⟨by have := HK1.out; have := HJ10.out; have := HJ22.out; have := HK4.out; have := HJ34.out; omega⟩, ⟨by (try simp only [hl3_22]); (try simp only [hl3_4]); (with_reducible repeat (first | apply Kd.R_alloc | apply Kd.R_drewN | apply Kd.R_drew)); exact HQ67.out⟩, ⟨by (try simp only [hl3_22]); (try simp only [hl3_4]); (with_reducible repeat (first | refine blk_drewN ?_ _ | refine blk_drew ?_ | refine blk_alloc ?_ _)); refine blk_far ?_ (by have h_ := Kd.R_ne HO_3.out BK238.out (by decide); intro e_; exact h_ (by rw [e_]; rfl)) _; (with_reducible repeat (first | refine blk_drewN ?_ _ | refine blk_drew ?_ | refine blk_alloc ?_ _)); exact BK238.out⟩, ⟨bel3 GB22.out GE238.out GE242.out⟩⟩
              rw [if_neg c59] at H; have c59b0 := decide_eq_false c59; clear c59
              have H' := am H
              clear H; have hnb68 := NB242_238.out; have hnc68 := NB238_242.out
              have hcz69_0 : wc.cell? ⟨gb242, 0, none⟩ = some (.int .i64 ((rd_T100 ((rd_T94 l0 x4_1).f1) x50_4).f0)) := (blk_cell BK242.out 0).trans rfl
              have hcz69_1 : wc.cell? ⟨gb242, 1, none⟩ = some (.int .i64 ((rd_T100 ((rd_T94 l0 x4_1).f1) x50_4).f1)) := (blk_cell BK242.out 1).trans rfl
              have hfz69_0 := bf BK242.out 0; have hfz69_1 := bf BK242.out 1
              have p247 : 0 ≤ (((rd_T100 ((rd_T94 l0 x4_1).f1) x50_4).f1) : Int) := of_decide_eq_true ad
              have q247 : ((rd_T100 ((rd_T94 l0 x4_1).f1) x50_4).f1) < (x3_4.length : Int) := of_decide_eq_true ad
              obtain ⟨ad247, e247, hx247_0⟩ := Kd.at_int (Kd.R_reads' HO_3.out).2.2 ((rd_T100 ((rd_T94 l0 x4_1).f1) x50_4).f1) p247 q247
              obtain rfl : (⟨go22, 0, none⟩ : Addr) = ad247 := (by injection e247)
              (first | simp only [add_plain] at hx247_0 | simp only [add_at] at hx247_0 | simp only [Addr.add, Nat.zero_add] at hx247_0 | skip)
              replace p247 := eq_true p247; replace q247 := eq_true q247; go_wp2
              (try simp only [← hl3_4])
              go_roundg kj34
              case measure => have := HK1.out; have := HJ10.out; have := HJ22.out; have := HK4.out; have := HJ34.out; omega
              case rel => exact ⟨(x3_4), (wrap64 (x50_4 + 1)), sq, H', ⟨by have := HK1.out; have := HJ10.out; have := HJ22.out; have := HK4.out; have := HJ34.out; omega⟩, ⟨b9_⟩, ⟨b10_⟩, ⟨bel2 GE238.out GE242.out⟩⟩
           rw [if_neg c32] at H; have c32b0 := decide_eq_false c32; clear c32
           have H' := am H
           clear H; go_wp2
           (try simp only [← hl3_22, ← hl3_4])
           go_roundg k4
           case measure => have := HK1.out; have := HJ10.out; have := HJ22.out; have := HK4.out; omega
           case rel => exact ⟨(x3_4), (wrap64 (x4_1 - 1)), sq, H', ⟨by have := HK1.out; have := HJ10.out; have := HJ22.out; have := HK4.out; omega⟩, ⟨b9_⟩, ⟨bel1 GE238.out⟩⟩
    rw [if_neg c8] at H; have c8b0 := decide_eq_false c8; clear c8
    replace H := ip H; obtain ⟨c70, H⟩ := H; have c70b0 := decide_eq_true c70
    have c70b1 : decide (0 < x3_1.length) = true := decide_eq_true (by omega)
    clear c70; obtain rfl := Option.some.inj H; obtain ⟨Ao71, co71, eo71⟩ := Kd.R_slice HO_3.out; subst eo71
    have p236 : 0 ≤ (0 : Int) := (by omega)
    have q236 : 0 < (x3_1.length : Int) := of_decide_eq_true ad
    obtain ⟨ad236, e236, hx236_0⟩ := Kd.at_int (Kd.R_reads' HO_3.out).2.2 0 p236 q236
    cases e236
    have qi236 : (0 < x3_1.length) = True := eq_true (by omega)
    (try rw [show ((0 : Int)).toNat = 0 from rfl] at hx236_0)
    (try rw [Addr.add_zero'] at hx236_0)
    replace p236 := eq_true p236; replace q236 := eq_true q236; go_wp2; go_ret
    exact ⟨eq_, bel⟩
 replace c3 := Bool.eq_false_iff.mpr c3; subst c3
 have H1 : (some false) = some r := b5_
 replace H := H1; clear H1
 obtain rfl := Option.some.inj H; go_enter Try.func44, Try.ntmps44
 go_wp2_with (first | ((with_reducible refine gate_callee (f := 81) rfl ?_); refine goesL_ (some 10) rfl rfl Try.func81 (by kernel_rfl) rfl #[.int .i64 (l0.length : Int), .int .i64 1, .int .i64 400] rfl mq ?_; (with_reducible refine (impl_within.calls (l0.length : Int) 1 400 false _ A2.out).mono ?_); rintro e w' ⟨rfl, ⟨nd, rfl⟩⟩; refine ⟨_, rfl, ?_⟩))
 go_ret
 exact ⟨eq_, bel⟩
-- shrunk

/-! ### impl_State_step: function 84 -/
def impl_State_step.l0 : Nat → Int → List (S100) → Int → Int → Option (Int)
 | 0, _, _, _, _ => none
 | k + 1, x1, x8, x9, x10 => if x10 < x9 then (if 0 ≤ x10 then (if x10 < (x8.length : Int) then (if ((rd_T100 x8 x10).f0) = (wrap64 (x1)) then (some ((rd_T100 x8 x10).f1)) else (impl_State_step.l0 k x1 x8 x9 (wrap64 (x10 + 1)))) else (none)) else (none)) else (some (-1))
def impl_State_step.f (k : Nat) (a0_0 : Bool) (l0_1 : List (S100)) (a1 : Int) : Option (Int) := impl_State_step.l0 k a1 l0_1 (l0_1.length : Int) 0
theorem impl_State_step.calls (k : Nat) (a0_0 : Bool) (A0_1 : Option Addr) (c0_1 : Nat) (l0_1 : List (S100)) (a1 : Int) (r : Int) (w : World) (hr0_1 : Kd.C k100 w A0_1 l0_1.length l0_1) (hc0_1 : l0_1.length ≤ c0_1) (h : impl_State_step.f k a0_0 l0_1 a1 = some r) :
  Calls Try.prog 84 #[.agg #[.bool a0_0, .slice A0_1 l0_1.length c0_1], .int .u8 a1] w fun e w' => e = .returned (.int .i64 r) ∧ Below w.heap.size w w' := by
 have hu94 := Try.underlying94; have hu100 := Try.underlying100; have HR0_1 := am hr0_1; have HC0_1 := am hc0_1; clear hr0_1 hc0_1; have HB := am (Below.refl w.heap.size w)
 have H : (impl_State_step.l0 k a1 l0_1 (l0_1.length : Int) 0) = some r := h
 clear h
 have H' := am H
 clear H; go_enter Try.func84, Try.ntmps84
 go_wp2_with (first | ((with_reducible refine gate_dst (N := 2) rfl ?_); refine bx 2 (cs := #[.bool a0_0, .slice A0_1 l0_1.length c0_1]) (t := 94) ?_; intro gb251 hg w3 hbox hb; have BK251 := am (hbox); have GW251 := am ((b7_ : w.heap.size ≤ gb251)); have GE251 := am ((b7_ : w.heap.size ≤ gb251)); replace HB := am (below_step bel hb); clear hb hbox hg; have hcz4_0 := bc BK251.out 0; have hcz4_1 := bc BK251.out 1; have hfz4_0 := bf BK251.out 0; have hfz4_1 := bf BK251.out 1))
 go_loopg [10] k (fun kq v10 w' => ∃ (x10_1 : Int), v10 = .int .i64 x10_1 ∧ Aside0 (impl_State_step.l0 kq a1 l0_1 (l0_1.length : Int) x10_1 = some r) ∧ Aside0 (kq ≤ k) ∧ Aside0 (w'.heap[gb251]? = some (.cells #[.bool a0_0, (.slice A0_1 l0_1.length c0_1)] 94 (0, 0))) ∧ Aside0 (Below w.heap.size w w'))
 case atStart => exact ⟨(0), sq, H', ⟨Nat.le_refl _⟩, ⟨bq BK251.out⟩, ⟨bel1 GE251.out⟩⟩
 case round =>
  clear H'; (try clear p2); (try clear hcz4_0); (try clear hcz4_1); (try clear hfz4_0); (try clear hfz4_1); obtain ⟨x10_1, rfl, HA, HK1, BK251, HB⟩ := hrel
  cases gk with
  | zero => exact absurd HA.out (by simp [impl_State_step.l0])
  | succ k1 =>
   have H := HA.out; clear HA
   simp only [impl_State_step.l0] at H
   by_cases c5 : x10_1 < (l0_1.length : Int)
   ·rw [if_pos c5] at H; have c5b0 := decide_eq_true c5; clear c5
    replace H := it H; obtain ⟨c6b0, H⟩ := H
    replace H := it H; obtain ⟨c7b0, H⟩ := H
    by_cases c8 : ((rd_T100 l0_1 x10_1).f0) = (wrap64 (a1))
    ·rw [if_pos c8] at H
     have c8b0 : (((rd_T100 l0_1 x10_1).f0) == (wrap64 (a1))) = true := beq_iff_eq.mpr c8
     have c8b1 : (((rd_T100 l0_1 x10_1).f0) != (wrap64 (a1))) = false := bne_eq_false_iff_eq.mpr c8
     clear c8; obtain rfl := Option.some.inj H
     have p252 : 0 ≤ (x10_1 : Int) := of_decide_eq_true ad
     have q252 : x10_1 < (l0_1.length : Int) := of_decide_eq_true ad
     obtain ⟨ad252, e252, hx252_0, hx252_1⟩ := at_T100 HR0_1.out x10_1 p252 q252
     cases e252
     replace hx252_0 := kp HB.out hx252_0; replace hx252_1 := kp HB.out hx252_1; replace p252 := eq_true p252; replace q252 := eq_true q252
     go_wp2_with (first | ((with_reducible refine gate_dst (N := 6) rfl ?_); refine bx 6 (cs := #[.int .i64 0, .int .i64 0]) (t := 100) ?_; intro gb253 hg w9 hbox hb; have BK253 := am (hbox); have GW253 := am ((b37_ : w.heap.size ≤ gb253)); have GE253 := am ((b37_ : w.heap.size ≤ gb253)); replace HB := am (below_step (bel1 GE251.out) hb); have NB251_253 := am ((b26_ : gb251 ≠ gb253)); have NB253_251 := am ((b27_ : gb253 ≠ gb251)); replace BK251 := am (blk_below (g := gb251) (o := .cells #[.bool a0_0, .slice (some ad252) l0_1.length c0_1] 94 (0, 0)) (bq BK251.out) hb); clear hb hbox hg; have hnb10 := NB253_251.out; have hnc10 := NB251_253.out; have hcz11_0 := bc BK253.out 0; have hcz11_1 := bc BK253.out 1; have hfz11_0 := bf BK253.out 0; have hfz11_1 := bf BK253.out 1))
     go_ret
     exact ⟨eq_, bel2 GE251.out GE253.out⟩
    rw [if_neg c8] at H
    have c8b0 : (((rd_T100 l0_1 x10_1).f0) == (wrap64 (a1))) = false := beq_eq_false_iff_ne.mpr c8
    have c8b1 : (((rd_T100 l0_1 x10_1).f0) != (wrap64 (a1))) = true := bne_iff_ne.mpr c8
    have H' := am H
    clear H
    have p252 : 0 ≤ (x10_1 : Int) := of_decide_eq_true ad
    have q252 : x10_1 < (l0_1.length : Int) := of_decide_eq_true ad
    obtain ⟨ad252, e252, hx252_0, hx252_1⟩ := at_T100 HR0_1.out x10_1 p252 q252
    cases e252
    replace hx252_0 := kp HB.out hx252_0; replace hx252_1 := kp HB.out hx252_1; replace p252 := eq_true p252; replace q252 := eq_true q252
    go_wp2_with (first | ((with_reducible refine gate_dst (N := 6) rfl ?_); refine bx 6 (cs := #[.int .i64 0, .int .i64 0]) (t := 100) ?_; intro gb253 hg w12 hbox hb; have BK253 := am (hbox); have GW253 := am ((b37_ : w.heap.size ≤ gb253)); have GE253 := am ((b37_ : w.heap.size ≤ gb253)); replace HB := am (below_step (bel1 GE251.out) hb); have NB251_253 := am ((b26_ : gb251 ≠ gb253)); have NB253_251 := am ((b27_ : gb253 ≠ gb251)); replace BK251 := am (blk_below (g := gb251) (o := .cells #[.bool a0_0, .slice (some ad252) l0_1.length c0_1] 94 (0, 0)) (bq BK251.out) hb); clear hb hbox hg; have hnb13 := NB253_251.out; have hnc13 := NB251_253.out; have hcz14_0 := bc BK253.out 0; have hcz14_1 := bc BK253.out 1; have hfz14_0 := bf BK253.out 0; have hfz14_1 := bf BK253.out 1))
    go_roundg k1
    case measure => have := HK1.out; omega
    case rel => exact ⟨(wrap64 (x10_1 + 1)), sq, H', ⟨b21_⟩, ⟨by (with_reducible repeat (first | refine blk_drewN ?_ _ | refine blk_drew ?_ | refine blk_alloc ?_ _)); refine blk_far ?_ NB251_253.out _; (with_reducible repeat (first | refine blk_drewN ?_ _ | refine blk_drew ?_ | refine blk_alloc ?_ _)); refine blk_far ?_ NB251_253.out _; (with_reducible repeat (first | refine blk_drewN ?_ _ | refine blk_drew ?_ | refine blk_alloc ?_ _)); exact BK251.out⟩, ⟨bel2 GE251.out GE253.out⟩⟩
   rw [if_neg c5] at H; have c5b0 := decide_eq_false c5; clear c5; obtain rfl := Option.some.inj H; go_wp2; go_ret
   exact ⟨eq_, bel1 GE251.out⟩

/-! ### impl_follow: function 82 -/
def impl_follow.l0 : Nat → List (S94) → ByteArray → Int → Int → Int → Option (Int)
 | 0, _, _, _, _, _ => none
 | k + 1, x0, x1, x5, x8, x9 => if x9 < x8 then (if 0 ≤ x5 then (if x5 < (x0.length : Int) then (if 0 ≤ x9 then (if x9 < (x1.size : Int) then ((impl_State_step.f k ((rd_T94 x0 x5).f0) ((rd_T94 x0 x5).f1) (bt x1 x9)).bind fun t255 => (if t255 < 0 then (some (-1)) else (impl_follow.l0 k x0 x1 t255 x8 (wrap64 (x9 + 1))))) else (none)) else (none)) else (none)) else (none)) else (some x5)
def impl_follow.f (k : Nat) (l0 : List (S94)) (a1 : ByteArray) : Option (Int) := impl_follow.l0 k l0 a1 0 (a1.size : Int) 0
def impl_follow.T5 : Bool × List (List Nat × List Nat) := (true, [([], []), ([], []), ([0, 1], [0, 1]), ([2], [2]), ([], []), ([], []), ([4, 5], [4, 5]), ([3, 6], [3, 6]), ([7, 7, 0, 1, 2, 3, 4, 5, 6, 7], [1, 7])])
def impl_follow.B5 : List Nat := [0, 0, 3, 7, 0, 0, 48, 127, 255]
theorem impl_follow.tab5 : rtab .any (opsOf Try.f82 5) = impl_follow.T5 := by kernel_rfl
theorem impl_follow.bits5 : waitsOk impl_follow.T5.2 impl_follow.B5 = true := by kernel_rfl
theorem impl_follow.calls (k : Nat) (A0 : Option Addr) (c0 : Nat) (l0 : List (S94)) (a1 : ByteArray) (r : Int) (w : World) (hr0 : Kd.C k94 w A0 l0.length l0) (hc0 : l0.length ≤ c0) (h : impl_follow.f k l0 a1 = some r) :
  Calls Try.prog 82 #[.slice A0 l0.length c0, .string a1] w fun e w' => e = .returned (.int .i64 r) ∧ Below w.heap.size w w' := by
 have hu94 := Try.underlying94; have HR0 := am hr0; have HC0 := am hc0; clear hr0 hc0; have HB := am (Below.refl w.heap.size w)
 have H : (impl_follow.l0 k l0 a1 0 (a1.size : Int) 0) = some r := h
 clear h
 have H' := am H
 clear H; go_enter Try.func82, Try.ntmps82; go_wp2
 go_loopg [5, 9] k (fun kq v5 v9 w' => ∃ (x5_1 : Int) (x9_1 : Int), v5 = .int .i64 x5_1 ∧ v9 = .int .i64 x9_1 ∧ Aside0 (impl_follow.l0 kq l0 a1 x5_1 (a1.size : Int) x9_1 = some r) ∧ Aside0 (kq ≤ k) ∧ Aside0 (Below w.heap.size w w'))
 case atStart => exact ⟨(0), (0), sq, sq, H', ⟨Nat.le_refl _⟩, ⟨bel⟩⟩
 case round =>
  clear H'; (try clear p2); obtain ⟨x5_1, x9_1, rfl, rfl, HA, HK1, HB⟩ := hrel
  cases gk with
  | zero => exact absurd HA.out (by simp [impl_follow.l0])
  | succ k1 =>
   have H := HA.out; clear HA
   simp only [impl_follow.l0] at H
   by_cases c3 : x9_1 < (a1.size : Int)
   ·rw [if_pos c3] at H; have c3b0 := decide_eq_true c3; clear c3
    replace H := it H; obtain ⟨c4b0, H⟩ := H
    replace H := it H; obtain ⟨c5b0, H⟩ := H
    replace H := it H; obtain ⟨c6b0, H⟩ := H
    replace H := it H; obtain ⟨c7b0, H⟩ := H; replace H := bs H; obtain ⟨t255, A90, H⟩ := H; replace H : (if t255 < 0 then (some (-1)) else (impl_follow.l0 k1 l0 a1 t255 (a1.size : Int) (wrap64 (x9_1 + 1)))) = some r := H; have A9 := Aside0.mk A90; clear A90
    by_cases c10 : t255 < 0
    ·rw [if_pos c10] at H; have c10b0 := decide_eq_true c10; clear c10; obtain rfl := Option.some.inj H
     try go_wp2
     replace HB := am (below_drew1 HB.out)
     have p254 : 0 ≤ (x5_1 : Int) := of_decide_eq_true ad
     have q254 : x5_1 < (l0.length : Int) := of_decide_eq_true ad
     obtain ⟨ad254, A254_1, c254_1, e254, hx254_0, hx254_1, hl254_1, hi254_1⟩ := at_T94 HR0.out x5_1 p254 q254; have hw254_1 := hx254_1; have hw254_0 := hx254_0
     cases e254
     replace hx254_0 := kp HB.out hx254_0; replace hx254_1 := kp HB.out hx254_1; have HR254_1 := am hi254_1; have HC254_1 := am hl254_1; clear hi254_1 hl254_1; replace p254 := eq_true p254; replace q254 := eq_true q254
     have p8 : 0 ≤ (x9_1 : Int) := of_decide_eq_true ad
     have q8 : x9_1 < (a1.size : Int) := of_decide_eq_true ad
     have hx8 := bt_at a1 x9_1; replace p8 := eq_true p8; replace q8 := eq_true q8
     refine st (n := 9) (S := fun w' => w'.cell? (ad254.add ((x5_1).toNat * 2)) = some (.bool ((rd_T94 l0 x5_1).f0)) ∧ w'.cell? ⟨(ad254.add ((x5_1).toNat * 2)).block, (ad254.add ((x5_1).toNat * 2)).off + 1, none⟩ = some (.slice A254_1 ((rd_T94 l0 x5_1).f1).length c254_1)) (ds := []) ⟨(kp HB.out hw254_0), (kp HB.out hw254_1)⟩ (fun hHeld => ?_); refine with_tabW impl_follow.tab5 impl_follow.bits5 (fun HT_ HW_ => ?_)
     generalize wr.drew = w11 at HB HR254_1 hx254_0 hx254_1 hHeld ⊢
     refine pu 0 12 ?_
     refine pu 1 13 ?_
     refine pu 2 14 ?_
     refine pu 4 16 ?_
     refine pu 5 17 ?_
     refine tk2 3 15 hHeld ?_
     refine tk2 6 18 hHeld ?_
     refine on1 7 19 (fun K hK => ?_)
     refine goes_ Try.func84 (by kernel_rfl) rfl #[.agg #[.bool ((rd_T94 l0 x5_1).f0), .slice A254_1 ((rd_T94 l0 x5_1).f1).length c254_1], .int .u8 (bt a1 x9_1)] (by rfl) rfl rfl mq ?_
     with_reducible refine (impl_State_step.calls k1 ((rd_T94 l0 x5_1).f0) _ _ ((rd_T94 l0 x5_1).f1) (bt a1 x9_1) t255 _ ?side1 ?side2 A9.out).mono ?_
     (case side1 => exact cq (Kd.C_below HR254_1.out HB.out)); (case side2 => exact HC254_1.out)
     rintro e w12 ⟨rfl, hb⟩
     refine ⟨_, rfl, ?_⟩
     replace HB := am (below_step bel hb)
     (try clear hb)
     (try clear hb2)
     (try clear hk)
     (try clear hi)
     refine hK.out _ _ ⟨(kp HB.out hw254_0), (kp HB.out hw254_1)⟩ (fun hHeld => ?_)
     clear hK K
     refine norm_ (a' := ?_) ?_ ?_
     rotate_left
     ·show Act.put _ (some 19) _ = _
      simp only [Act.put, List.setIfInBounds_toArray, List.set_cons_zero, List.set_cons_succ, i64_w, i32_w]
      rfl
     refine pu 8 5 ?_
     refine done_ (done_of HT_.out (by kernel_rfl)) ?_
     try go_wp2
     go_ret
     exact ⟨eq_, bel⟩
    rw [if_neg c10] at H; have c10b0 := decide_eq_false c10; clear c10
    have H' := am H
    clear H
    try go_wp2
    replace HB := am (below_drew1 HB.out)
    have p254 : 0 ≤ (x5_1 : Int) := of_decide_eq_true ad
    have q254 : x5_1 < (l0.length : Int) := of_decide_eq_true ad
    obtain ⟨ad254, A254_1, c254_1, e254, hx254_0, hx254_1, hl254_1, hi254_1⟩ := at_T94 HR0.out x5_1 p254 q254; have hw254_1 := hx254_1; have hw254_0 := hx254_0
    cases e254
    replace hx254_0 := kp HB.out hx254_0; replace hx254_1 := kp HB.out hx254_1; have HR254_1 := am hi254_1; have HC254_1 := am hl254_1; clear hi254_1 hl254_1; replace p254 := eq_true p254; replace q254 := eq_true q254
    have p8 : 0 ≤ (x9_1 : Int) := of_decide_eq_true ad
    have q8 : x9_1 < (a1.size : Int) := of_decide_eq_true ad
    have hx8 := bt_at a1 x9_1; replace p8 := eq_true p8; replace q8 := eq_true q8
    refine st (n := 9) (S := fun w' => w'.cell? (ad254.add ((x5_1).toNat * 2)) = some (.bool ((rd_T94 l0 x5_1).f0)) ∧ w'.cell? ⟨(ad254.add ((x5_1).toNat * 2)).block, (ad254.add ((x5_1).toNat * 2)).off + 1, none⟩ = some (.slice A254_1 ((rd_T94 l0 x5_1).f1).length c254_1)) (ds := []) ⟨(kp HB.out hw254_0), (kp HB.out hw254_1)⟩ (fun hHeld => ?_); refine with_tabW impl_follow.tab5 impl_follow.bits5 (fun HT_ HW_ => ?_)
    generalize wr.drew = w13 at HB HR254_1 hx254_0 hx254_1 hHeld ⊢
    refine pu 0 12 ?_
    refine pu 1 13 ?_
    refine pu 2 14 ?_
    refine pu 4 16 ?_
    refine pu 5 17 ?_
    refine tk2 3 15 hHeld ?_
    refine tk2 6 18 hHeld ?_
    refine on1 7 19 (fun K hK => ?_)
    refine goes_ Try.func84 (by kernel_rfl) rfl #[.agg #[.bool ((rd_T94 l0 x5_1).f0), .slice A254_1 ((rd_T94 l0 x5_1).f1).length c254_1], .int .u8 (bt a1 x9_1)] (by rfl) rfl rfl mq ?_
    with_reducible refine (impl_State_step.calls k1 ((rd_T94 l0 x5_1).f0) _ _ ((rd_T94 l0 x5_1).f1) (bt a1 x9_1) t255 _ ?side1 ?side2 A9.out).mono ?_
    (case side1 => exact cq (Kd.C_below HR254_1.out HB.out)); (case side2 => exact HC254_1.out)
    rintro e w14 ⟨rfl, hb⟩
    refine ⟨_, rfl, ?_⟩
    replace HB := am (below_step bel hb)
    (try clear hb)
    (try clear hb2)
    (try clear hk)
    (try clear hi)
    refine hK.out _ _ ⟨(kp HB.out hw254_0), (kp HB.out hw254_1)⟩ (fun hHeld => ?_)
    clear hK K
    refine norm_ (a' := ?_) ?_ ?_
    rotate_left
    ·show Act.put _ (some 19) _ = _
     simp only [Act.put, List.setIfInBounds_toArray, List.set_cons_zero, List.set_cons_succ, i64_w, i32_w]
     rfl
    refine pu 8 5 ?_
    refine done_ (done_of HT_.out (by kernel_rfl)) ?_
    try go_wp2
    go_roundg k1
    case measure => have := HK1.out; omega
    case rel => exact ⟨(t255), (wrap64 (x9_1 + 1)), sq, sq, H', ⟨b21_⟩, ⟨bel⟩⟩
   rw [if_neg c3] at H; have c3b0 := decide_eq_false c3; clear c3; obtain rfl := Option.some.inj H; go_wp2; go_ret
   exact ⟨eq_, bel⟩

/-! ### impl_MachineKnows: function 37 -/
def impl_MachineKnows.f (k : Nat) (l0 : List (S94)) (a1 : ByteArray) : Option (Bool) := (impl_MachineOk.f k l0).bind fun t256 => (if t256 = true then ((impl_follow.f k l0 a1).bind fun t257 => (if t257 ≥ 0 then (if 0 ≤ t257 then (if t257 < (l0.length : Int) then (some ((rd_T94 l0 t257).f0)) else (none)) else (none)) else (some false))) else (some false))
theorem impl_MachineKnows.calls (k : Nat) (A0 : Option Addr) (c0 : Nat) (l0 : List (S94)) (a1 : ByteArray) (r : Bool) (w : World) (hr0 : Kd.C k94 w A0 l0.length l0) (hc0 : l0.length ≤ c0) (h : impl_MachineKnows.f k l0 a1 = some r) :
  Calls Try.prog 37 #[.slice A0 l0.length c0, .string a1] w fun e w' => e = .returned (.bool r) ∧ Below w.heap.size w w' := by
 have HR0 := am hr0; have HC0 := am hc0; clear hr0 hc0; have HB := am (Below.refl w.heap.size w)
 have H : ((impl_MachineOk.f k l0).bind fun t256 => (if t256 = true then ((impl_follow.f k l0 a1).bind fun t257 => (if t257 ≥ 0 then (if 0 ≤ t257 then (if t257 < (l0.length : Int) then (some ((rd_T94 l0 t257).f0)) else (none)) else (none)) else (some false))) else (some false))) = some r := h
 clear h; replace H := bs H; obtain ⟨t256, A30, H⟩ := H; replace H : (if t256 = true then ((impl_follow.f k l0 a1).bind fun t257 => (if t257 ≥ 0 then (if 0 ≤ t257 then (if t257 < (l0.length : Int) then (some ((rd_T94 l0 t257).f0)) else (none)) else (none)) else (some false))) else (some false)) = some r := H; have A3 := Aside0.mk A30; clear A30
 by_cases c4 : t256 = true
 ·subst c4
  have H1 : ((impl_follow.f k l0 a1).bind fun t257 => (if t257 ≥ 0 then (if 0 ≤ t257 then (if t257 < (l0.length : Int) then (some ((rd_T94 l0 t257).f0)) else (none)) else (none)) else (some false))) = some r := b11_
  replace H := H1; clear H1
  replace H := bs H; obtain ⟨t257, A50, H⟩ := H; replace H : (if t257 ≥ 0 then (if 0 ≤ t257 then (if t257 < (l0.length : Int) then (some ((rd_T94 l0 t257).f0)) else (none)) else (none)) else (some false)) = some r := H; have A5 := Aside0.mk A50; clear A50
  by_cases c6 : t257 ≥ 0
  ·rw [if_pos c6] at H; have c6b0 := decide_eq_true c6; clear c6
   replace H := it H; obtain ⟨c7b0, H⟩ := H
   replace H := it H; obtain ⟨c8b0, H⟩ := H; obtain rfl := Option.some.inj H; go_enter Try.func37, Try.ntmps37
   go_wp2_with (first | ((with_reducible refine gate_callee (f := 44) rfl ?_); refine goesL_ (some 7) rfl rfl Try.func44 (by kernel_rfl) rfl #[.slice A0 l0.length c0] rfl mq ?_; (with_reducible refine (impl_MachineOk.calls k _ _ l0 true _ ?side1 ?side2 A3.out).mono ?_); (case side1 => repeat (first | exact HR0.out | (with_reducible refine Kd.C_alloc ?_ _) | (with_reducible refine Kd.C_drewN ?_ _) | (with_reducible refine Kd.C_drew ?_))); (case side2 => exact HC0.out); rintro e w9 ⟨rfl, hb⟩; refine ⟨_, rfl, ?_⟩; replace HB := am (below_step bel hb); (try clear hb); (try clear hb2); (try clear hk); (try clear hi)) | ((with_reducible refine gate_callee (f := 82) rfl ?_); refine goesL_ (some 11) rfl rfl Try.func82 (by kernel_rfl) rfl #[.slice A0 l0.length c0, .string a1] rfl mq ?_; (with_reducible refine (impl_follow.calls k _ _ l0 a1 t257 _ ?side1 ?side2 A5.out).mono ?_); (case side1 => exact cq (Kd.C_below HR0.out HB.out)); (case side2 => exact HC0.out); rintro e w10 ⟨rfl, hb⟩; refine ⟨_, rfl, ?_⟩; replace HB := am (below_step bel hb); (try clear hb); (try clear hb2); (try clear hk); (try clear hi); have p258 : 0 ≤ (t257 : Int) := of_decide_eq_true ad; have q258 : t257 < (l0.length : Int) := of_decide_eq_true ad; obtain ⟨ad258, A258_1, c258_1, e258, hx258_0, hx258_1, hl258_1, hi258_1⟩ := at_T94 HR0.out t257 p258 q258; cases e258; replace hx258_0 := kp HB.out hx258_0; replace hx258_1 := kp HB.out hx258_1; have HR258_1 := am hi258_1; have HC258_1 := am hl258_1; clear hi258_1 hl258_1; replace p258 := eq_true p258; replace q258 := eq_true q258))
   go_ret
   exact ⟨eq_, bel⟩
  rw [if_neg c6] at H; have c6b0 := decide_eq_false c6; clear c6; obtain rfl := Option.some.inj H; go_enter Try.func37, Try.ntmps37
  go_wp2_with (first | ((with_reducible refine gate_callee (f := 44) rfl ?_); refine goesL_ (some 7) rfl rfl Try.func44 (by kernel_rfl) rfl #[.slice A0 l0.length c0] rfl mq ?_; (with_reducible refine (impl_MachineOk.calls k _ _ l0 true _ ?side1 ?side2 A3.out).mono ?_); (case side1 => repeat (first | exact HR0.out | (with_reducible refine Kd.C_alloc ?_ _) | (with_reducible refine Kd.C_drewN ?_ _) | (with_reducible refine Kd.C_drew ?_))); (case side2 => exact HC0.out); rintro e w11 ⟨rfl, hb⟩; refine ⟨_, rfl, ?_⟩; replace HB := am (below_step bel hb); (try clear hb); (try clear hb2); (try clear hk); (try clear hi)) | ((with_reducible refine gate_callee (f := 82) rfl ?_); refine goesL_ (some 11) rfl rfl Try.func82 (by kernel_rfl) rfl #[.slice A0 l0.length c0, .string a1] rfl mq ?_; (with_reducible refine (impl_follow.calls k _ _ l0 a1 t257 _ ?side1 ?side2 A5.out).mono ?_); (case side1 => exact cq (Kd.C_below HR0.out HB.out)); (case side2 => exact HC0.out); rintro e w12 ⟨rfl, hb⟩; refine ⟨_, rfl, ?_⟩; replace HB := am (below_step bel hb); (try clear hb); (try clear hb2); (try clear hk); (try clear hi)))
  go_ret
  exact ⟨eq_, bel⟩
 replace c4 := Bool.eq_false_iff.mpr c4; subst c4
 have H1 : (some false) = some r := b5_
 replace H := H1; clear H1
 obtain rfl := Option.some.inj H; go_enter Try.func37, Try.ntmps37
 go_wp2_with (first | ((with_reducible refine gate_callee (f := 44) rfl ?_); refine goesL_ (some 7) rfl rfl Try.func44 (by kernel_rfl) rfl #[.slice A0 l0.length c0] rfl mq ?_; (with_reducible refine (impl_MachineOk.calls k _ _ l0 false _ ?side1 ?side2 A3.out).mono ?_); (case side1 => repeat (first | exact HR0.out | (with_reducible refine Kd.C_alloc ?_ _) | (with_reducible refine Kd.C_drewN ?_ _) | (with_reducible refine Kd.C_drew ?_))); (case side2 => exact HC0.out); rintro e w13 ⟨rfl, hb⟩; refine ⟨_, rfl, ?_⟩; replace HB := am (below_step bel hb); (try clear hb); (try clear hb2); (try clear hk); (try clear hi)))
 go_ret
 exact ⟨eq_, bel⟩

/-! ### impl_lower: function 105 -/
def impl_lower.l0 : Nat → ByteArray → Int → Int → Option (Bool)
 | 0, _, _, _ => none
 | k + 1, x0, x5, x6 => if x6 < x5 then (if 0 ≤ x6 then (if x6 < (x0.size : Int) then (if (bt x0 x6) < 97 then (some false) else (if (bt x0 x6) > 122 then (some false) else (impl_lower.l0 k x0 x5 (wrap64 (x6 + 1))))) else (none)) else (none)) else (some true)
def impl_lower.f (k : Nat) (a0 : ByteArray) : Option (Bool) := impl_lower.l0 k a0 (a0.size : Int) 0
theorem impl_lower.calls (k : Nat) (a0 : ByteArray) (r : Bool) (w : World) (h : impl_lower.f k a0 = some r) :
  Calls Try.prog 105 #[.string a0] w fun e w' => e = .returned (.bool r) ∧ Drawn0 w w' := by
 have H : (impl_lower.l0 k a0 (a0.size : Int) 0) = some r := h
 clear h
 have H' := am H
 clear H; go_enter Try.func105, Try.ntmps105; go_wp2
 go_loopg [6] k (fun kq v6 w' => ∃ (x6_1 : Int), v6 = .int .i64 x6_1 ∧ Aside0 (impl_lower.l0 kq a0 (a0.size : Int) x6_1 = some r) ∧ Aside0 (kq ≤ k) ∧ Drawn0 w w')
 case atStart => exact ⟨(0), sq, H', ⟨Nat.le_refl _⟩, dr⟩
 case round =>
  clear H'; (try clear c1); obtain ⟨x6_1, rfl, HA, HK1, ⟨m1, rfl⟩⟩ := hrel
  cases gk with
  | zero => exact absurd HA.out (by simp [impl_lower.l0])
  | succ k1 =>
   have H := HA.out; clear HA
   simp only [impl_lower.l0] at H
   by_cases c2 : x6_1 < (a0.size : Int)
   ·rw [if_pos c2] at H; have c2b0 := decide_eq_true c2; clear c2
    replace H := it H; obtain ⟨c3b0, H⟩ := H
    replace H := it H; obtain ⟨c4b0, H⟩ := H
    by_cases c6 : (bt a0 x6_1) < 97
    ·rw [if_pos c6] at H; have c6b0 := decide_eq_true c6; clear c6; obtain rfl := Option.some.inj H
     have p5 : 0 ≤ (x6_1 : Int) := of_decide_eq_true ad
     have q5 : x6_1 < (a0.size : Int) := of_decide_eq_true ad
     have hx5 := bt_at a0 x6_1; replace p5 := eq_true p5; replace q5 := eq_true q5; go_wp2; go_ret
     exact ⟨sq, dr⟩
    rw [if_neg c6] at H; have c6b0 := decide_eq_false c6; clear c6
    by_cases c8 : (bt a0 x6_1) > 122
    ·rw [if_pos c8] at H; have c8b0 := decide_eq_true c8; clear c8; obtain rfl := Option.some.inj H
     have p5 : 0 ≤ (x6_1 : Int) := of_decide_eq_true ad
     have q5 : x6_1 < (a0.size : Int) := of_decide_eq_true ad
     have hx5 := bt_at a0 x6_1; replace p5 := eq_true p5; replace q5 := eq_true q5
     have p7 : 0 ≤ (x6_1 : Int) := of_decide_eq_true ad
     have q7 : x6_1 < (a0.size : Int) := of_decide_eq_true ad
     have hx7 := bt_at a0 x6_1; replace p7 := eq_true p7; replace q7 := eq_true q7; go_wp2; go_ret
     exact ⟨sq, dr⟩
    rw [if_neg c8] at H; have c8b0 := decide_eq_false c8; clear c8
    have H' := am H
    clear H
    have p5 : 0 ≤ (x6_1 : Int) := of_decide_eq_true ad
    have q5 : x6_1 < (a0.size : Int) := of_decide_eq_true ad
    have hx5 := bt_at a0 x6_1; replace p5 := eq_true p5; replace q5 := eq_true q5
    have p7 : 0 ≤ (x6_1 : Int) := of_decide_eq_true ad
    have q7 : x6_1 < (a0.size : Int) := of_decide_eq_true ad
    have hx7 := bt_at a0 x6_1; replace p7 := eq_true p7; replace q7 := eq_true q7; go_wp2
    go_roundg k1
    case measure => have := HK1.out; omega
    case rel => exact ⟨(wrap64 (x6_1 + 1)), sq, H', ⟨b21_⟩, dr⟩
   rw [if_neg c2] at H; have c2b0 := decide_eq_false c2; clear c2; obtain rfl := Option.some.inj H; go_wp2; go_ret
   exact ⟨sq, dr⟩

/-! ### impl_WordOk: function 60 -/
def impl_WordOk.f (k : Nat) (a0 : ByteArray) : Option (Bool) := (impl_within.f (a0.size : Int) 1 12).bind fun t259 => (if t259 = true then ((impl_lower.f k a0).bind fun t260 => (some t260)) else (some false))
theorem impl_WordOk.calls (k : Nat) (a0 : ByteArray) (r : Bool) (w : World) (h : impl_WordOk.f k a0 = some r) :
  Calls Try.prog 60 #[.string a0] w fun e w' => e = .returned (.bool r) ∧ Drawn0 w w' := by
 have H : ((impl_within.f (a0.size : Int) 1 12).bind fun t259 => (if t259 = true then ((impl_lower.f k a0).bind fun t260 => (some t260)) else (some false))) = some r := h
 clear h; replace H := bs H; obtain ⟨t259, A20, H⟩ := H; replace H : (if t259 = true then ((impl_lower.f k a0).bind fun t260 => (some t260)) else (some false)) = some r := H; have A2 := Aside0.mk A20; clear A20
 by_cases c3 : t259 = true
 ·subst c3
  have H1 : ((impl_lower.f k a0).bind fun t260 => (some t260)) = some r := b11_
  replace H := H1; clear H1
  replace H := bs H; obtain ⟨t260, A40, H⟩ := H; replace H : (some t260) = some r := H; have A4 := Aside0.mk A40; clear A40; obtain rfl := Option.some.inj H; go_enter Try.func60, Try.ntmps60
  go_wp2_with (first | ((with_reducible refine gate_callee (f := 81) rfl ?_); refine goesL_ (some 5) rfl rfl Try.func81 (by kernel_rfl) rfl #[.int .i64 (a0.size : Int), .int .i64 1, .int .i64 12] rfl mq ?_; (with_reducible refine (impl_within.calls (a0.size : Int) 1 12 true _ A2.out).mono ?_); rintro e w' ⟨rfl, ⟨nd, rfl⟩⟩; refine ⟨_, rfl, ?_⟩) | (go_at_call 105; (with_reducible refine (impl_lower.calls k a0 t260 _ A4.out).mono ?_); rintro e w' ⟨rfl, ⟨nd, rfl⟩⟩))
  go_ret
  exact ⟨sq, dr⟩
 replace c3 := Bool.eq_false_iff.mpr c3; subst c3
 have H1 : (some false) = some r := b5_
 replace H := H1; clear H1
 obtain rfl := Option.some.inj H; go_enter Try.func60, Try.ntmps60
 go_wp2_with (first | ((with_reducible refine gate_callee (f := 81) rfl ?_); refine goesL_ (some 5) rfl rfl Try.func81 (by kernel_rfl) rfl #[.int .i64 (a0.size : Int), .int .i64 1, .int .i64 12] rfl mq ?_; (with_reducible refine (impl_within.calls (a0.size : Int) 1 12 false _ A2.out).mono ?_); rintro e w' ⟨rfl, ⟨nd, rfl⟩⟩; refine ⟨_, rfl, ?_⟩))
 go_ret
 exact ⟨sq, dr⟩

/-! ### impl_sorted: function 116 -/
/-- A list in ascending order, each once. -/
def impl_sorted.f (l0 : List ByteArray) : Option (List ByteArray) := if l0.length ≤ 1000000000 then some (M.setL l0) else none
def impl_sorted.ba (l : List UInt8) : ByteArray := ⟨l.toArray⟩
theorem impl_sorted.encs_ba (ss : List (List UInt8)) : encs Value.string (ss.map impl_sorted.ba) = ss.map encStr := by
 unfold encs
 rw [List.map_map]
 rfl
theorem impl_sorted.own {W : World} {base : Nat} {v : Value} {ss : List (List UInt8)} (h : Kd.R Kd.string 9 W base (fun _ => True) v (ss.map impl_sorted.ba)) : W.ownsRow base 9 1 v ss.length (ss.map encStr) := by
 have := Kd.own_of_R h
 rw [impl_sorted.encs_ba, List.length_map] at this
 exact this
theorem impl_sorted.row {W : World} {base : Nat} {v : Value} {ss : List (List UInt8)} (h : W.ownsRow base 9 1 v ss.length (ss.map encStr)) : Kd.R Kd.string 9 W base (fun _ => True) v (ss.map impl_sorted.ba) :=
 Kd.R_of_own (by rw [impl_sorted.encs_ba, List.length_map]; exact h) (fun _ _ => trivial)
theorem impl_sorted.holds {w : World} {base : Nat} {g n cap : Nat} {zs : List (List UInt8)} (h : w.ownsRow base 9 1 (.slice (some ⟨g, 0, none⟩) n cap) n (zs.map encStr)) :
  base ≤ g ∧ g < w.heap.size ∧ n ≤ cap ∧ zs.length = n ∧ Sort.Holds encStr w g 0 zs.toArray := by
 obtain ⟨g', cap', e, h1, h2, h3, _, h5, h6⟩ := Go.Lib.holds_of_ownsRow h (by intro e; cases e)
 cases e
 exact ⟨h1, h2, h3, h5, h6⟩
set_option maxHeartbeats 1000000 in
theorem impl_sorted.sort {w0 W : World} {base : Nat} {v : Value} {ss : List (List UInt8)} (h : Kd.R Kd.string 9 W base (fun _ => True) v (ss.map impl_sorted.ba)) (hB : Below base w0 W) (hbase : base ≤ W.heap.size) (hl : ss.length ≤ 1000000000) :
  Calls Try.prog 142 #[v] W fun e w' => e = .returned (.tuple #[]) ∧ Kd.R Kd.string 9 w' base (fun _ => True) v ((ss.mergeSort M.leU).map impl_sorted.ba) ∧ Below base w0 w' ∧ base ≤ w'.heap.size := by
 have ho := impl_sorted.own h
 rcases ho.2 with ⟨rfl, h0⟩ | ⟨g, cap, cur, rfl, hb, hg, h1, h2, h3, h4⟩
 ·have e0 : ss = [] := List.length_eq_zero_iff.1 h0
  subst e0
  have := Any.slices_Sort_string_none Try.laySort none 0 W
  change Calls Try.prog 142 _ _ _ at this
  refine this.mono ?_
  rintro e w' ⟨he, rfl⟩
  exact ⟨he, by simpa using h, hB, hbase⟩
 ·obtain ⟨hbg, hgl, hc, _, hH⟩ := impl_sorted.holds ho
  have := Any.slices_Sort_string Try.laySort g 0 cap ss W hH hgl (by omega)
  change Calls Try.prog 142 _ _ _ at this
  refine this.mono ?_
  rintro e w' ⟨he, n, os, rfl⟩
  have hl2 : (ss.mergeSort M.leU).length = ss.length := List.length_mergeSort ss
  have hs := ownsRow_sorted (n := n) (os := os) (ts := ss.mergeSort M.leU) hl2 hb hg h1 h2 h3; rw [← hl2] at hs
  refine ⟨he, ?_, ?_, ?_⟩
  ·have := impl_sorted.row hs
   rw [hl2] at this
   exact this
  ·exact hB.grown (grownBy_sorted _) hbase (fun j hj => by cases hj; exact hbg)
  ·exact Nat.le_trans hbase (grownBy_sorted (w := W) (g := g) (n := n) (os := os) (ss.mergeSort M.leU).toArray).size
set_option maxHeartbeats 1000000 in
theorem impl_sorted.compact {w0 W : World} {base : Nat} {v : Value} {ss : List (List UInt8)} (h : Kd.R Kd.string 9 W base (fun _ => True) v (ss.map impl_sorted.ba)) (hB : Below base w0 W) (hbase : base ≤ W.heap.size) (hl : ss.length ≤ 1000000000) :
  Calls Try.prog 143 #[v] W fun e w' => ∃ A c, e = .returned (.slice A (Go.Lib.compact ss).length c) ∧ Kd.R Kd.string 9 w' base (fun _ => True) (.slice A (Go.Lib.compact ss).length c) ((Go.Lib.compact ss).map impl_sorted.ba) ∧ Below base w0 w' ∧ W.grownBy w' v.ownBlock := by
 have ho := impl_sorted.own h
 rcases ho.2 with ⟨rfl, h0⟩ | ⟨g, cap, cur, rfl, hb, hg, h1, h2, h3, h4⟩
 ·have e0 : ss = [] := List.length_eq_zero_iff.1 h0
  subst e0
  have := Any.slices_Compact_string_empty Try.layCompact none 0 W
  change Calls Try.prog 143 _ _ _ at this
  refine this.mono ?_
  rintro e w' ⟨he, rfl⟩
  exact ⟨none, 0, he, h, hB, ⟨rfl, rfl, rfl, Nat.le_refl _, fun _ _ _ => rfl⟩⟩
 ·obtain ⟨hbg, hgl, hc, _, hH⟩ := impl_sorted.holds ho
  have := Any.slices_Compact_string Try.layCompact g 0 cap ss W hH (by omega) h1
  change Calls Try.prog 143 _ _ _ at this
  refine this.mono ?_
  rintro e w' ⟨he, q, rfl⟩
  have hle := Go.Lib.compact_length_le ss
  have hc2 := Go.Lib.ownsRow_putRow (q := q) (k := (Go.Lib.compact ss).length) (ys := Go.Lib.compact ss ++ List.replicate (ss.length - (Go.Lib.compact ss).length) []) ho (by simp; omega) (by omega)
  rw [List.take_left] at hc2
  refine ⟨_, _, he, impl_sorted.row hc2, Go.Lib.below_putRow hB hbg, rfl, rfl, rfl, by simp [Sort.putRow, Sort.mapBlock, Sort.ahead], fun k hk hne => ?_⟩
  have : g ≠ k := fun e => hne (by rw [← e]; rfl)
  simp [Sort.putRow, Sort.mapBlock, Sort.ahead, Array.getElem?_modify, this]
theorem impl_sorted.apart {W W1 : World} {base : Nat} {v v9 : Value} {xs : List ByteArray} (h : Kd.R Kd.string 9 W base (fun _ => True) v xs) (h9 : Kd.R Kd.string 9 W1 base (fun _ => True) v9 []) (hn : ∃ b, v9.ownBlock = some b ∧ W.heap.size ≤ b) :
  Kd.R Kd.string 9 W1 base (fun k => some k ≠ v.ownBlock) v9 [] := by
 refine Kd.R_of_own (Kd.own_of_R h9) (fun k hk => ?_)
 obtain ⟨b, hb, hle⟩ := hn; rw [hb] at hk
 cases hk
 intro e
 rcases (Kd.own_of_R h).2 with ⟨rfl, _⟩ | ⟨g, cap, cur, rfl, hbg, hg, _⟩
 ·simp [Value.ownBlock] at e
 ·have e2 : k = g := by simpa [Value.ownBlock] using e
  have := (Array.getElem?_eq_some_iff.1 hg).1
  omega
theorem impl_sorted.ba_of (l : List ByteArray) : (l.map (·.data.toList)).map impl_sorted.ba = l := by
 rw [List.map_map]
 conv => rhs; rw [← List.map_id l]
 exact List.map_congr_left (fun x _ => M.ba_of x)
theorem impl_sorted.compactL {w0 W : World} {base : Nat} {v : Value} {l : List ByteArray} (h : Kd.R Kd.string 9 W base (fun _ => True) v (((l.map (·.data.toList)).mergeSort M.leU).map impl_sorted.ba)) (hB : Below base w0 W) (hbase : base ≤ W.heap.size) (hl : l.length ≤ 1000000000) :
  Calls Try.prog 143 #[v] W fun e w' => ∃ A c, e = .returned (.slice A (M.setL l).length c) ∧ Kd.R Kd.string 9 w' base (fun _ => True) (.slice A (M.setL l).length c) (M.setL l) ∧ Below base w0 w' ∧ W.grownBy w' v.ownBlock := by
 have := impl_sorted.compact (w0 := w0) h hB hbase (by rw [List.length_mergeSort, List.length_map]; exact hl)
 rw [M.sorted_eq, List.length_map, impl_sorted.ba_of] at this
 exact this

set_option maxHeartbeats 4000000 in
set_option maxRecDepth 100000 in
theorem impl_sorted.calls (A0 : Option Addr) (c0 : Nat) (l0 : List ByteArray) (r : List ByteArray) (w : World) (hr0 : Kd.C Kd.string w A0 l0.length l0) (hc0 : l0.length ≤ c0) (h : impl_sorted.f l0 = some r) :
  Calls Try.prog 116 #[.slice A0 l0.length c0] w fun e w' => ∃ v0_ : Value, e = .returned (v0_) ∧ Kd.R Kd.string 9 w' w.heap.size (fun _ => True) v0_ r ∧ Below w.heap.size w w' := by
 unfold impl_sorted.f at h
 split at h
 case isFalse => cases h
 rename_i hsz; obtain rfl := Option.some.inj h; clear h; have hsl := M.setL_length l0; have HR := am hr0; clear hr0; go_enter Try.func116, Try.ntmps116
 go_wp2_with (first
  | ((with_reducible refine gate_dst (N := 4) rfl ?_); refine Kd.R_lit Kd.string w.heap.size 9 ?hg (N := 4) ?hd (xs := ([] : List ByteArray)) (inner := []) (ok := fun _ => True) (okp := fun _ => True) ?hr ?hp (fun _ hk => hk) trivial (Below.refl _ _) (Nat.le_refl _) (by simp) ?_; (case hd => rfl); (case hg => rfl); (case hr => first | (go_simp; done) | (go_simp; rfl)); (case hp => exact (Reps.none _ _)); intro v4 w1 ho hb hg_ hnew_; have HO4 := am ho; have HB1 := am hb; clear ho hb hg_ hnew_)
  | ((with_reducible refine gate_builtin (b := .append) (xs := #[.tmp 4, .tmp 5]) rfl ?_); at_builtin; refine Kd.R_append_row Value.string (⟨#[]⟩ : ByteArray) (h1 := fun _ => rfl) (w0 := w) w.heap.size rfl (.tmp 4) (.tmp 5) 22 9 (.string ⟨#[]⟩) 16 rfl Try.underlying22 info9 rfl (by decide) v4 [] l0 A0 l0.length c0 (fun _ => True) rfl rfl (fun _ _ => trivial) HO4.out (Kd.C_below HR.out HB1.out) HB1.out (below_size HB1.out) (by simp; omega) ?_; intro v6 w2 ho hb hg_ hat_; rw [List.nil_append] at ho; have HO6 := am ho; have HB2 := am hb; clear ho hb hg_ hat_ HO4 HB1)
  | (go_at_call 142; refine (impl_sorted.sort (w0 := w) (base := w.heap.size) (ss := l0.map (·.data.toList)) (by rw [impl_sorted.ba_of]; exact HO6.out) HB2.out (below_size HB2.out) (by simpa using hsz)).mono ?_; rintro e w3 ⟨rfl, hR3, hB3, hs3⟩; have HO7 := am hR3; have HB3 := am hB3; clear hR3 hB3 hs3 HO6 HB2)
  | ((with_reducible refine gate_dst (N := 9) rfl ?_); refine Kd.R_lit Kd.string w.heap.size 9 ?hg (N := 9) ?hd (xs := ([] : List ByteArray)) (inner := []) (ok := fun _ => True) (okp := fun _ => True) ?hr ?hp (fun _ hk => hk) trivial HB3.out (below_size HB3.out) (by simp) ?_; (case hd => rfl); (case hg => rfl); (case hr => first | (go_simp; done) | (go_simp; rfl)); (case hp => exact (Reps.none _ _)); intro v9 w4 ho hb hg_ hnew_; have HO8 := am (Kd.R_mono (Kd.R_grown HO7.out hg_ (fun _ _ h => by cases h)) (fun _ _ => trivial)); have HO9 := am (impl_sorted.apart HO7.out ho hnew_); have HB4 := am hb; clear ho hb hg_ hnew_ HO7 HB3)
  | (go_at_call 143; refine (impl_sorted.compactL (w0 := w) (base := w.heap.size) HO8.out HB4.out (below_size HB4.out) hsz).mono ?_; rintro e w5 ⟨A5, c5, rfl, hR5, hB5, hg5⟩; have HO5 := am hR5; have HO9' := am (Kd.R_mono (Kd.R_grown HO9.out hg5 (fun _ h => h)) (fun _ _ => trivial)); have HB5 := am hB5; clear hR5 hB5 hg5 HO8 HO9 HB4)
  | ((with_reducible refine gate_builtin (b := .append) (xs := #[.tmp 9, .tmp 11]) rfl ?_); at_builtin; refine Kd.R_append_row Value.string (⟨#[]⟩ : ByteArray) (h1 := fun _ => rfl) (w0 := w) w.heap.size rfl (.tmp 9) (.tmp 11) 22 9 (.string ⟨#[]⟩) 16 rfl Try.underlying22 info9 rfl (by decide) v9 [] (M.setL l0) A5 (M.setL l0).length c5 (fun _ => True) rfl rfl (fun _ _ => trivial) HO9'.out (Kd.R_reads' HO5.out).2.2 HB5.out (below_size HB5.out) (by simp; omega) ?_; intro v12 w6 ho hb hg_ hat_; rw [List.nil_append] at ho; have HO12 := am ho; have HB6 := am hb; clear ho hb hg_ hat_ HO9' HB5))
 go_ret
 exact ⟨v12, rfl, HO12.out, HB6.out⟩
-- shrunk

/-! ### impl_Near: function 73 -/
/-- A text that is one step away is told, if it is a word, and another one. -/
def impl_Near.put (k : Nat) (s : ByteArray) (xs : List ByteArray) (x : ByteArray) : Option (List ByteArray) :=
 if xs.length < 100000 then (if x.toList = s.toList then some xs else (impl_WordOk.f k x).bind fun b => some (if b = true then xs ++ [x] else xs)) else none
def impl_Near.go (k : Nat) (s : ByteArray) : List ByteArray → List ByteArray → Option (List ByteArray)
 | [], xs => some xs
 | x :: l, xs => (impl_Near.put k s xs x).bind fun ys => impl_Near.go k s l ys
def impl_Near.f (k : Nat) (a0 : ByteArray) : Option (List ByteArray) := (impl_WordOk.f k a0).bind fun b => if b = true then (if a0.size ≤ 1000 then ((impl_Near.go k a0 (M.candsFrom a0 0) []).bind fun xs => impl_sorted.f xs) else none) else some []
theorem impl_Near.big {n : Nat} (h : n ≤ 5000) : (9223372036854775807 < n) = False := eq_false (by omega)
theorem impl_Near.w64n {i n : Nat} (h : i ≤ n) (hn : n ≤ 1000) : wrap64 ((i : Int) + 1) = ((i + 1 : Nat) : Int) := M.w64 (by omega) (by omega)
structure impl_Near.St (w W : World) (B1 B3 : Nat) (s : ByteArray) (xs : List ByteArray) : Prop where
 ge1 : w.heap.size ≤ B1
 ge3 : w.heap.size ≤ B3
 ne : B1 ≠ B3
 b1 : W.heap[B1]? = some (.cells #[.string s] 9 (0, 0))
 row : ∃ v, W.heap[B3]? = some (.cells #[v] 22 (0, 0)) ∧ Kd.R Kd.string 9 W w.heap.size (fun k => k ≠ B1 ∧ k ≠ B3) v xs
 below : Below w.heap.size w W
theorem impl_Near.St.drewN {w W : World} {B1 B3 : Nat} {s : ByteArray} {xs : List ByteArray} (h : impl_Near.St w W B1 B3 s xs) (m : Nat) : impl_Near.St w (W.drewN m) B1 B3 s xs :=
 ⟨h.ge1, h.ge3, h.ne, h.b1, by obtain ⟨v, hb, hr⟩ := h.row; exact ⟨v, hb, Kd.R_drewN hr m⟩, pw_below_drewN h.below m⟩
theorem impl_Near.St.drew {w W : World} {B1 B3 : Nat} {s : ByteArray} {xs : List ByteArray} (h : impl_Near.St w W B1 B3 s xs) : impl_Near.St w W.drew B1 B3 s xs :=
 ⟨h.ge1, h.ge3, h.ne, h.b1, by obtain ⟨v, hb, hr⟩ := h.row; exact ⟨v, hb, Kd.R_drew hr⟩, below_drew1 h.below⟩
theorem impl_Near.St.alloc {w W : World} {B1 B3 : Nat} {s : ByteArray} {xs : List ByteArray} (h : impl_Near.St w W B1 B3 s xs) (o : Obj) : impl_Near.St w (W.alloc o) B1 B3 s xs :=
 ⟨h.ge1, h.ge3, h.ne, blk_alloc h.b1 o, by obtain ⟨v, hb, hr⟩ := h.row; exact ⟨v, blk_alloc hb o, Kd.R_alloc hr o⟩, below_alloc h.below o⟩

def impl_Near.T12 : Bool × List (List Nat × List Nat) := (true, [([], []), ([], []), ([], []), ([1, 2], [1, 2]), ([], []), ([3, 4], [3, 4]), ([], []), ([], []), ([6, 7], [6, 7]), ([5, 8], [5, 8]), ([0, 9], [0, 9])])
def impl_Near.B12 : List Nat := [0, 0, 0, 6, 0, 30, 0, 0, 192, 510, 1023]
theorem impl_Near.tab12 : rtab .any (opsOf Try.f73 12) = impl_Near.T12 := by kernel_rfl
theorem impl_Near.bits12 : waitsOk impl_Near.T12.2 impl_Near.B12 = true := by kernel_rfl
def impl_Near.T14 : Bool × List (List Nat × List Nat) := (true, [([], []), ([], []), ([], []), ([1, 2], [1, 2]), ([], []), ([3, 4], [3, 4]), ([], []), ([], []), ([7], [7]), ([6, 8], [6, 8]), ([5, 9], [5, 9]), ([0, 10], [0, 10])])
def impl_Near.B14 : List Nat := [0, 0, 0, 6, 0, 30, 0, 0, 128, 448, 1022, 2047]
theorem impl_Near.tab14 : rtab .any (opsOf Try.f73 14) = impl_Near.T14 := by kernel_rfl
theorem impl_Near.bits14 : waitsOk impl_Near.T14.2 impl_Near.B14 = true := by kernel_rfl
def impl_Near.T16 : Bool × List (List Nat × List Nat) := (true, [([], []), ([], []), ([], []), ([1, 2], [1, 2]), ([], []), ([], []), ([5], [5]), ([4, 6], [4, 6]), ([3, 7], [3, 7]), ([0, 8], [0, 8])])
def impl_Near.B16 : List Nat := [0, 0, 0, 6, 0, 0, 32, 112, 254, 511]
theorem impl_Near.tab16 : rtab .any (opsOf Try.f73 16) = impl_Near.T16 := by kernel_rfl
theorem impl_Near.bits16 : waitsOk impl_Near.T16.2 impl_Near.B16 = true := by kernel_rfl
def impl_Near.T18 : Bool × List (List Nat × List Nat) := (true, [([], []), ([], []), ([], []), ([1, 2], [1, 2]), ([], []), ([], []), ([5], [5]), ([], []), ([7], [7]), ([4, 6, 8], [4, 6, 8]), ([3, 9], [3, 9]), ([], []), ([], []), ([], []), ([13], [13]), ([11, 12, 14], [11, 12, 14]), ([10, 15], [10, 15]), ([], []), ([], []), ([18], [18]), ([17, 19], [17, 19]), ([16, 20], [16, 20]), ([0, 21], [0, 21])])
def impl_Near.B18 : List Nat := [0, 0, 0, 6, 0, 0, 32, 0, 128, 496, 1022, 0, 0, 0, 8192, 30720, 65534, 0, 0, 262144, 917504, 2097150, 4194303]
theorem impl_Near.tab18 : rtab .any (opsOf Try.f73 18) = impl_Near.T18 := by kernel_rfl
theorem impl_Near.bits18 : waitsOk impl_Near.T18.2 impl_Near.B18 = true := by kernel_rfl
set_option maxHeartbeats 1000000 in
set_option maxRecDepth 100000 in
theorem impl_Near.putc (k : Nat) (s x : ByteArray) (xs ys : List ByteArray) (w W : World) (B1 B3 : Nat) (hS : impl_Near.St w W B1 B3 s xs) (h : impl_Near.put k s xs x = some ys) :
  Calls Try.prog 115 #[.string x, .pointer (some ⟨B1, 0, none⟩), .pointer (some ⟨B3, 0, none⟩)] W fun e w' => e = .returned (.tuple #[]) ∧ impl_Near.St w w' B1 B3 s ys := by
 unfold impl_Near.put at h
 split at h
 case isFalse => cases h
 rename_i hlen
 have hcell : W.cell? ⟨B1, 0, none⟩ = some (.string s) := (blk_cell hS.b1 0).trans rfl
 have HS := am hS; clear hS
 by_cases c : x.toList = s.toList
 ·rw [if_pos c] at h; obtain rfl := Option.some.inj h
  have cb : (x.toList == s.toList) = true := by simpa using c
  clear h; go_enter Try.func115, Try.ntmps115; go_wp2
  refine bodyPost_end (results_none rfl _ _ _) rfl ?_
  exact ⟨rfl, HS.out⟩
 ·rw [if_neg c] at h; obtain ⟨b, hb, h⟩ := Option.bind_eq_some_iff.1 h; have h := Option.some.inj h
  have cb : (x.toList == s.toList) = false := by simpa using c
  cases b with
  | false =>
   simp only [Bool.false_eq_true, if_false] at h
   subst h; go_enter Try.func115, Try.ntmps115
   go_wp2_with (go_at_call 60; refine (impl_WordOk.calls k x false _ hb).mono ?_; rintro e w' ⟨rfl, ⟨nd, rfl⟩⟩)
   refine bodyPost_end (results_none rfl _ _ _) rfl ?_
   exact ⟨rfl, HS.out.drewN nd⟩
  | true =>
   simp only [if_true] at h
   subst h; obtain ⟨v, hb3, hr⟩ := HS.out.row; obtain ⟨A3, c3, rfl⟩ := Kd.R_slice hr
   have hfresh : ∀ k, W.heap.size ≤ k → k ≠ B1 ∧ k ≠ B3 := fun k hk => ⟨by have := blk_lt HS.out.b1; omega, by have := blk_lt hb3; omega⟩
   have hapart : ∀ k, (Value.slice A3 xs.length c3).ownBlock = some k → k ≠ B1 ∧ k ≠ B3 := fun k hk => hr.1 k hk
   have HR := am hr; have HB3 := am hb3; clear hr hb3; go_enter Try.func115, Try.ntmps115
   go_wp2_with (first
    | (go_at_call 60; refine (impl_WordOk.calls k x true _ hb).mono ?_; rintro e w' ⟨rfl, ⟨nd, rfl⟩⟩; have hcell3 : (W.drewN nd).cell? ⟨B3, 0, none⟩ = some (.slice A3 xs.length c3) := (blk_cell (blk_drewN HB3.out nd) 0).trans rfl)
    | ((with_reducible refine gate_builtin (b := .append) (xs := #[.tmp 11, .tmp 13]) rfl ?_); at_builtin; go_loud (refine Kd.R_append Kd.string (w0 := w) w.heap.size rfl (.tmp 11) (.tmp 13) 22 9 (.string ⟨#[]⟩) 16 rfl Try.underlying22 info9 rfl (by decide) (by decide) (.slice A3 xs.length c3) xs x [.string x] (fun k => k ≠ B1 ∧ k ≠ B3) (fun _ => False) rfl rfl rfl (fun _ h => h.elim) hfresh (Kd.R_drewN HR.out nd) (pw_below_drewN HS.out.below nd) (below_size (pw_below_drewN HS.out.below nd)) (by omega) ?_; intro v1 w1 ho hbw hg hat; obtain ⟨A4, c4, rfl⟩ := Kd.R_slice ho; have hb3' := blk_grown (blk_drewN HB3.out nd) hg (fun e => (hapart B3 e.symm).2 rfl); have hb1' := blk_grown (blk_drewN HS.out.b1 nd) hg (fun e => (hapart B1 e.symm).1 rfl); have hcell4 : w1.cell? ⟨B3, 0, none⟩ = some (.slice A3 xs.length c3) := (blk_cell hb3' 0).trans rfl; have hfz4 := bf hb3' 0; have HO := am ho; have HL := am (show (xs ++ [x]).length = xs.length + 1 from by simp); have HBW := am hbw; have HB3' := am hb3'; have HB1' := am hb1'; clear ho hbw hg hat hb3' hb1')))
   refine bodyPost_end (results_none rfl _ _ _) rfl ?_
   refine ⟨rfl, HS.out.ge1, HS.out.ge3, HS.out.ne, blk_far HB1'.out HS.out.ne _, ⟨_, blk_put HB3'.out 0 _ rfl, Kd.R_step (HL.out ▸ HO.out) (fun k hk _ => Below.heap_setCell _ _ _ k (fun e => hk.2 e))⟩, below_set HBW.out HS.out.ge3⟩
set_option maxHeartbeats 4000000 in
set_option maxRecDepth 100000 in
theorem impl_Near.calls (k : Nat) (a0 : ByteArray) (r : List ByteArray) (w : World) (h : impl_Near.f k a0 = some r) :
  Calls Try.prog 73 #[.string a0] w fun e w' => ∃ v0_ : Value, e = .returned (v0_) ∧ Kd.R Kd.string 9 w' w.heap.size (fun _ => True) v0_ r ∧ Below w.heap.size w w' := by
 unfold impl_Near.f at h
 obtain ⟨b, hb, h⟩ := Option.bind_eq_some_iff.1 h; have HW := am hb; clear hb
 cases b with
 | false =>
  simp only [Bool.false_eq_true, if_false] at h
  obtain rfl := Option.some.inj h; clear h; go_enter Try.func73, Try.ntmps73
  go_wp2_with (first
   | (go_at_call 60; refine (impl_WordOk.calls k a0 false _ HW.out).mono ?_; rintro e w' ⟨rfl, ⟨nd, rfl⟩⟩)
   | ((with_reducible refine gate_dst (N := 11) rfl ?_); refine Kd.R_lit Kd.string w.heap.size 9 ?hg (N := 11) ?hd (xs := ([] : List ByteArray)) (inner := []) (ok := fun _ => True) (okp := fun _ => True) ?hr ?hp (fun _ hk => hk) trivial (pw_below_drewN (below_alloc (Below.refl _ w) _) nd) (below_size (pw_below_drewN (below_alloc (Below.refl _ w) _) nd)) (by simp) ?_; (case hd => rfl); (case hg => rfl); (case hr => first | (go_simp; done) | (go_simp; rfl)); (case hp => exact (Reps.none _ _)); intro v11 w1 ho hbw hg_ hnew_; have HO := am ho; have HB := am hbw; clear ho hbw hg_ hnew_))
  go_ret
  exact ⟨v11, rfl, HO.out, HB.out⟩
 | true =>
  simp only [if_true] at h
  split at h
  case isFalse => cases h
  rename_i hsz; obtain ⟨r0, hgo, h⟩ := Option.bind_eq_some_iff.1 h; have HG := am hgo; have HF := am h; clear hgo h; go_enter Try.func73, Try.ntmps73
  go_wp2_with (first
   | ((with_reducible refine gate_dst (N := 1) rfl ?_); refine bx 1 (cs := #[.string a0]) (t := 9) ?_; intro B1 hg1 w1 hbox hbw; have GE1 : w.heap.size ≤ B1 := Nat.le_of_eq hg1.symm; have BK1 := am hbox; have HB1 := am hbw; have hcell1 : w1.cell? ⟨B1, 0, none⟩ = some (.string a0) := (blk_cell hbox 0).trans rfl; clear hbox hbw hg1)
   | (go_at_call 60; refine (impl_WordOk.calls k a0 true _ HW.out).mono ?_; rintro e w' ⟨rfl, ⟨nd, rfl⟩⟩)
   | ((with_reducible refine gate_dst (N := 12) rfl ?_); refine Kd.R_lit Kd.string w.heap.size 9 ?hg (N := 12) ?hd (xs := ([] : List ByteArray)) (inner := []) (ok := fun k => k ≠ B1) (okp := fun k => k ≠ B1) ?hr ?hp (fun _ hk => hk) (Nat.ne_of_gt (blk_lt (blk_drewN BK1.out nd))) (pw_below_drewN HB1.out nd) (below_size (pw_below_drewN HB1.out nd)) (by simp) ?_; (case hd => rfl); (case hg => rfl); (case hr => first | (go_simp; done) | (go_simp; rfl)); (case hp => exact (Reps.none _ _)); intro v12 w2 ho hbw hg_ hnew_; have HO := am ho; have HB2 := am hbw; have BK2 := am (blk_grown (blk_drewN BK1.out nd) hg_ (by simp)); clear ho hbw hg_ hnew_ hcell1)
   | ((with_reducible refine gate_dst (N := 3) rfl ?_); refine bx 3 (cs := #[.slice none 0 0]) (t := 22) ?_; intro B3 hg3 w3 hbox3 hbw3; have GE3 : w.heap.size ≤ B3 := (by rw [hg3]; exact below_size HB2.out); have NE13 : B1 ≠ B3 := (by rw [hg3]; exact Nat.ne_of_lt (blk_lt BK2.out)); have HO3 := am (Kd.R_below (Kd.R_mono (Kd.R_bound HO.out) (fun k hk => (⟨hk.1, by rw [hg3]; exact Nat.ne_of_lt hk.2.2.1⟩ : k ≠ B1 ∧ k ≠ B3))) hbw3); have BK13 := am (blk_below BK2.out hbw3); have BK3 := am hbox3; have HB3 := am (below_step HB2.out hbw3); have HG3 := am hg3; obtain ⟨A12, c12, rfl⟩ := Kd.R_slice HO.out; have hcell3 : w3.cell? ⟨B3, 0, none⟩ = some (.slice none 0 0) := (blk_cell hbox3 0).trans rfl; have hfz3 := bf hbox3 0; clear hbox3 hbw3 hg3))
  have S0 : impl_Near.St w (w3.setCell ⟨B3, 0, none⟩ (.slice A12 0 c12)) B1 B3 a0 [] := ⟨GE1, GE3, NE13, blk_far BK13.out NE13 _, ⟨_, blk_put BK3.out 0 _ rfl, Kd.R_step HO3.out (fun k hk _ => Below.heap_setCell _ _ _ k (fun e => hk.2 e))⟩, below_set HB3.out GE3⟩
  have HS0 := Aside0.mk S0; clear S0 hcell3 hfz3 BK1 HB1 BK2 HB2 BK13 BK3 HB3 HG3 HO HO3
  generalize w3.setCell ⟨B3, 0, none⟩ (.slice A12 0 c12) = W0 at HS0 ⊢
  go_loopg [5] (a0.size + 1) (fun kq v5 W => ∃ (i : Nat) (xs : List ByteArray), v5 = .int .i64 (i : Int) ∧ Aside0 (i ≤ a0.size + 1) ∧ Aside0 (a0.size + 1 - i ≤ kq) ∧ Aside0 (impl_Near.St w W B1 B3 a0 xs) ∧ Aside0 (impl_Near.go k a0 (M.candsFrom a0 i) xs = some r0))
  case atStart => exact ⟨0, [], rfl, ⟨by omega⟩, ⟨by omega⟩, HS0, HG⟩
  case round =>
   obtain ⟨i, xs, rfl, HI, HK, HS, HC⟩ := hrel; clear HS0 HG
   have hcell1 : wr.cell? ⟨B1, 0, none⟩ = some (.string a0) := (blk_cell HS.out.b1 0).trans rfl
   by_cases c : (i : Int) ≤ (a0.size : Int)
   ·have cb : decide ((i : Int) ≤ (a0.size : Int)) = true := decide_eq_true c
    have cb2 : (i ≤ a0.size) = True := eq_true (by omega)
    have cb3 : decide (i ≤ a0.size) = true := decide_eq_true (by omega)
    have HLE := am (show i ≤ a0.size by omega)
    cases gk with
    | zero => exact absurd HK.out (by omega)
    | succ k0 =>
    have HC2 := am (show impl_Near.go k a0 (M.lettersAt a0 i 97 ++ (M.delAt a0 i ++ (M.swpAt a0 i ++ M.candsFrom a0 (i + 1)))) xs = some r0 by
     have e := HC.out
     rw [M.candsFrom_step a0 i (by omega)] at e
     unfold M.candsAt at e
     rw [List.append_assoc, List.append_assoc] at e
     exact e)
    clear c; go_wp2
    go_loopg [6] 26 (fun kq v6 W => ∃ (c : Nat) (ys : List ByteArray), v6 = .int .u8 (c : Int) ∧ Aside0 (97 ≤ c ∧ c ≤ 123) ∧ Aside0 (123 - c ≤ kq) ∧ Aside0 (impl_Near.St w W B1 B3 a0 ys) ∧ Aside0 (impl_Near.go k a0 (M.lettersAt a0 i c ++ (M.delAt a0 i ++ (M.swpAt a0 i ++ M.candsFrom a0 (i + 1)))) ys = some r0))
    case atStart => exact ⟨97, xs, rfl, ⟨by omega⟩, ⟨by omega⟩, HS, HC2⟩
    case round =>
     obtain ⟨c, ys, rfl, HCC, HKC, HSC, HCC2⟩ := hrel
     have hcell2 : wr.cell? ⟨B1, 0, none⟩ = some (.string a0) := (blk_cell HSC.out.b1 0).trans rfl
     by_cases d : (c : Int) ≤ 122
     ·have db : decide ((c : Int) ≤ 122) = true := decide_eq_true d
      have db2 : (c ≤ 122) = True := eq_true (by omega)
      have db3 : decide (c ≤ 122) = true := decide_eq_true (by omega)
      have HD := Aside0.mk d; clear d
      cases gk with
      | zero => exact absurd HKC.out (by have := HD.out; omega)
      | succ k1 =>
      have hconv := own_string (P := Try.prog) (src := 31) (dst := 9) (e := 5) Try.underlying31 Try.underlying5 Try.underlying9 (w := wr.alloc (.cells #[.int .u8 (c : Int)] 5)) (base := 0) (e' := 5) (n := 1) (v := .slice (some ⟨wr.heap.size, 0, none⟩) 1 1) (xs := [(c : Int)]) (by have h2 := World.ownsRow_lit (base := 0) (e := 5) (size := 1) wr #[.int .u8 (c : Int)] 1 (Nat.zero_le _) (by decide) (by simp); simpa [nums] using h2)
      go_wp2; clear hconv hcell2 hcell1; have HSA := am ((HSC.out.alloc (.cells #[.int .u8 (c : Int)] 5)).drew); have hle := HLE.out
      have hL : (strOfNums [(c : Int)]).size = 1 := rfl
      have hm : (c : Int) % 256 = (c : Int) := by have := HCC.out; omega
      have z1 : (a0.extract 0 i).size = i := by rw [M.size_extract _ _ _ (by omega) HLE.out]; omega
      have z2 : (a0.extract i a0.size).size = a0.size - i := M.size_extract _ _ _ HLE.out (Nat.le_refl _)
      have hu : IntKind.u8.wrap ((c : Int) + 1) = ((c + 1 : Nat) : Int) := by have := HD.out; have := HCC.out; show ((c : Int) + 1) % 256 = _; omega
      have w1 : (9223372036854775807 < (a0.extract 0 i).size + (strOfNums [(c : Int)]).size) = False := impl_Near.big (by omega)
      have w3 : (9223372036854775807 < ((a0.extract 0 i) ++ (strOfNums [(c : Int)])).size + (a0.extract i a0.size).size) = False := impl_Near.big (by rw [M.size_append]; omega)
      have w5 : (9223372036854775807 < i + 1) = False := impl_Near.big (by omega)
      have w6 : (9223372036854775807 < i + 1 + (a0.size - i)) = False := impl_Near.big (by omega)
      by_cases e1 : i < a0.size
      ·obtain ⟨ys1, hp1, hg1⟩ : ∃ ys1, impl_Near.put k a0 ys ((a0.extract 0 i ++ strOfNums [(c : Int)]) ++ a0.extract i a0.size) = some ys1 ∧ impl_Near.go k a0 (M.subB a0 i c :: (M.lettersAt a0 i (c + 1) ++ (M.delAt a0 i ++ (M.swpAt a0 i ++ M.candsFrom a0 (i + 1))))) ys1 = some r0 := by
        have e := HCC2.out
        rw [M.lettersAt_step a0 i c (by have := HD.out; omega), M.letAt, if_pos e1] at e
        obtain ⟨y, h1, h2⟩ := Option.bind_eq_some_iff.1 e
        refine ⟨y, ?_, h2⟩
        unfold M.insB at h1
        rw [hm] at h1
        exact h1
       obtain ⟨ys2, hp2, hg2⟩ : ∃ ys2, impl_Near.put k a0 ys1 ((a0.extract 0 i ++ strOfNums [(c : Int)]) ++ a0.extract (i + 1) a0.size) = some ys2 ∧ impl_Near.go k a0 (M.lettersAt a0 i (c + 1) ++ (M.delAt a0 i ++ (M.swpAt a0 i ++ M.candsFrom a0 (i + 1)))) ys2 = some r0 := by
        obtain ⟨y, h1, h2⟩ := Option.bind_eq_some_iff.1 hg1
        refine ⟨y, ?_, h2⟩
        unfold M.subB at h1
        rw [hm] at h1
        exact h1
       have HP1 := am hp1; have HP2 := am hp2; have HG2 := am hg2; clear hp1 hg1 hp2 hg2
       have e1b : (i < a0.size) = True := eq_true e1
       have e1c : decide (i < a0.size) = true := decide_eq_true e1
       have e1d : (i + 1 ≤ a0.size) = True := eq_true e1
       have b1 : ((i : Int) + 1 ≤ (a0.size : Int)) = True := eq_true (Int.ofNat_le.2 e1)
       have b0 : (0 ≤ (i : Int) + 1) = True := eq_true (Int.natCast_nonneg (i + 1))
       have z3 : (a0.extract (i + 1) a0.size).size = a0.size - (i + 1) := M.size_extract _ _ _ e1 (Nat.le_refl _)
       have w7 : (9223372036854775807 < i + 1 + (a0.size - (i + 1))) = False := impl_Near.big (by rw [Nat.add_sub_of_le e1]; exact Nat.le_trans hsz (by decide))
       have hw : wrap64 ((i : Int) + 1) = ((i + 1 : Nat) : Int) := impl_Near.w64n hle hsz
       have w14 : (9223372036854775807 < a0.size) = False := impl_Near.big (by omega)
       refine st (n := 11) (S := fun w' => w'.cell? ⟨B1, 0, none⟩ = some (.string a0)) (ds := []) ((blk_cell HSA.out.b1 0).trans rfl) (fun hHeld => ?_); refine with_tabW impl_Near.tab12 impl_Near.bits12 (fun HT_ HW_ => ?_)
       refine pu 0 27 ?_
       refine tk1 1 28 hHeld ?_
       refine pu 2 29 ?_
       refine pu 3 30 ?_
       refine pu 4 31 ?_
       refine pu 5 32 ?_
       refine tk1 6 33 hHeld ?_
       refine pu 7 34 ?_
       refine pu 8 35 ?_
       refine pu 9 36 ?_
       refine on1 10 37 (fun K hK => ?_)
       refine call_ 115 #[.string ((a0.extract 0 i ++ strOfNums [(c : Int)]) ++ a0.extract i a0.size), .pointer (some ⟨B1, 0, none⟩), .pointer (some ⟨B3, 0, none⟩)] (by rfl) rfl b38_ ?_
       refine (impl_Near.putc k a0 _ _ _ w _ B1 B3 HSA.out HP1.out).mono ?_
       rintro e wn ⟨rfl, hSn⟩
       refine ⟨_, rfl, ?_⟩
       have HSN := am hSn; clear hSn
       refine hK.out _ _ ((blk_cell HSN.out.b1 0).trans rfl) (fun hHeld => ?_)
       clear hK K
       refine norm_ (a' := ?_) ?_ ?_
       rotate_left
       ·show Act.put _ (some 37) _ = _
        simp only [Act.put, List.setIfInBounds_toArray, List.set_cons_zero, List.set_cons_succ, i64_w, i32_w]
        rfl
       refine done_ (done_of HT_.out (by kernel_rfl)) ?_
       clear HT_ HW_; go_wp2; clear hHeld; have HSB := am HSN.out.drew
       refine st (n := 12) (S := fun w' => w'.cell? ⟨B1, 0, none⟩ = some (.string a0)) (ds := []) ((blk_cell HSB.out.b1 0).trans rfl) (fun hHeld => ?_); refine with_tabW impl_Near.tab14 impl_Near.bits14 (fun HT_ HW_ => ?_)
       refine pu 0 42 ?_
       refine tk1 1 43 hHeld ?_
       refine pu 2 44 ?_
       refine pu 3 45 ?_
       refine pu 4 46 ?_
       refine pu 5 47 ?_
       refine tk1 6 48 hHeld ?_
       refine pu 7 49 ?_
       refine pu 8 50 ?_
       refine pu 9 51 ?_
       refine pu 10 52 ?_
       refine on1 11 53 (fun K hK => ?_)
       refine call_ 115 #[.string ((a0.extract 0 i ++ strOfNums [(c : Int)]) ++ a0.extract (i + 1) a0.size), .pointer (some ⟨B1, 0, none⟩), .pointer (some ⟨B3, 0, none⟩)] (by rfl) rfl b38_ ?_
       refine (impl_Near.putc k a0 _ _ _ w _ B1 B3 HSB.out HP2.out).mono ?_
       rintro e wn ⟨rfl, hSn⟩
       refine ⟨_, rfl, ?_⟩
       have HSM := am hSn; clear hSn
       refine hK.out _ _ ((blk_cell HSM.out.b1 0).trans rfl) (fun hHeld => ?_)
       clear hK K
       refine norm_ (a' := ?_) ?_ ?_
       rotate_left
       ·show Act.put _ (some 53) _ = _
        simp only [Act.put, List.setIfInBounds_toArray, List.set_cons_zero, List.set_cons_succ, i64_w, i32_w]
        rfl
       refine done_ (done_of HT_.out (by kernel_rfl)) ?_
       clear HT_ HW_; go_wp2
       go_roundg k1
       case measure => have := HKC.out; have := HD.out; omega
       case rel => exact ⟨c + 1, ys2, (by first | rfl | rw [hu]), ⟨by have := HD.out; have := HCC.out; omega⟩, ⟨by have := HKC.out; omega⟩, HSM, HG2⟩
      ·obtain ⟨ys1, hp1, hg1⟩ : ∃ ys1, impl_Near.put k a0 ys ((a0.extract 0 i ++ strOfNums [(c : Int)]) ++ a0.extract i a0.size) = some ys1 ∧ impl_Near.go k a0 (M.lettersAt a0 i (c + 1) ++ (M.delAt a0 i ++ (M.swpAt a0 i ++ M.candsFrom a0 (i + 1)))) ys1 = some r0 := by
        have e := HCC2.out
        rw [M.lettersAt_step a0 i c (by have := HD.out; omega), M.letAt, if_neg e1] at e
        obtain ⟨y, h1, h2⟩ := Option.bind_eq_some_iff.1 e
        refine ⟨y, ?_, h2⟩
        unfold M.insB at h1
        rw [hm] at h1
        exact h1
       have HP1 := am hp1; have HG2 := am hg1; clear hp1 hg1
       have e1b : (i < a0.size) = False := eq_false e1
       have e1c : decide (i < a0.size) = false := decide_eq_false e1
       have w14 : (9223372036854775807 < a0.size) = False := impl_Near.big (by omega)
       refine st (n := 11) (S := fun w' => w'.cell? ⟨B1, 0, none⟩ = some (.string a0)) (ds := []) ((blk_cell HSA.out.b1 0).trans rfl) (fun hHeld => ?_); refine with_tabW impl_Near.tab12 impl_Near.bits12 (fun HT_ HW_ => ?_)
       refine pu 0 27 ?_
       refine tk1 1 28 hHeld ?_
       refine pu 2 29 ?_
       refine pu 3 30 ?_
       refine pu 4 31 ?_
       refine pu 5 32 ?_
       refine tk1 6 33 hHeld ?_
       refine pu 7 34 ?_
       refine pu 8 35 ?_
       refine pu 9 36 ?_
       refine on1 10 37 (fun K hK => ?_)
       refine call_ 115 #[.string ((a0.extract 0 i ++ strOfNums [(c : Int)]) ++ a0.extract i a0.size), .pointer (some ⟨B1, 0, none⟩), .pointer (some ⟨B3, 0, none⟩)] (by rfl) rfl b38_ ?_
       refine (impl_Near.putc k a0 _ _ _ w _ B1 B3 HSA.out HP1.out).mono ?_
       rintro e wn ⟨rfl, hSn⟩
       refine ⟨_, rfl, ?_⟩
       have HSN := am hSn; clear hSn
       refine hK.out _ _ ((blk_cell HSN.out.b1 0).trans rfl) (fun hHeld => ?_)
       clear hK K
       refine norm_ (a' := ?_) ?_ ?_
       rotate_left
       ·show Act.put _ (some 37) _ = _
        simp only [Act.put, List.setIfInBounds_toArray, List.set_cons_zero, List.set_cons_succ, i64_w, i32_w]
        rfl
       refine done_ (done_of HT_.out (by kernel_rfl)) ?_
       clear HT_ HW_; go_wp2
       go_roundg k1
       case measure => have := HKC.out; have := HD.out; omega
       case rel => exact ⟨c + 1, ys1, (by first | rfl | rw [hu]), ⟨by have := HD.out; have := HCC.out; omega⟩, ⟨by have := HKC.out; omega⟩, HSN, HG2⟩
     ·have db : decide ((c : Int) ≤ 122) = false := decide_eq_false d
      have db2 : (c ≤ 122) = False := eq_false (by omega)
      have db3 : decide (c ≤ 122) = false := decide_eq_false (by omega)
      have HC3 := am (show impl_Near.go k a0 (M.delAt a0 i ++ (M.swpAt a0 i ++ M.candsFrom a0 (i + 1))) ys = some r0 by
       have e := HCC2.out
       rw [M.lettersAt_end a0 i c (by omega), List.nil_append] at e
       exact e)
      clear d; have hle := HLE.out
      have hw : wrap64 ((i : Int) + 1) = ((i + 1 : Nat) : Int) := impl_Near.w64n hle hsz
      have hw2 : wrap64 ((i : Int) + 2) = ((i + 2 : Nat) : Int) := M.w64 (by omega) (by omega)
      have z1 : (a0.extract 0 i).size = i := by rw [M.size_extract _ _ _ (by omega) HLE.out]; omega
      by_cases e1 : i < a0.size
      ·have e1b : (i < a0.size) = True := eq_true e1
       have e1c : decide (i < a0.size) = true := decide_eq_true e1
       have e1d : (i + 1 ≤ a0.size) = True := eq_true e1
       have b1 : ((i : Int) + 1 ≤ (a0.size : Int)) = True := eq_true (Int.ofNat_le.2 e1)
       have b0 : (0 ≤ (i : Int) + 1) = True := eq_true (Int.natCast_nonneg (i + 1))
       have z3 : (a0.extract (i + 1) a0.size).size = a0.size - (i + 1) := M.size_extract _ _ _ e1 (Nat.le_refl _)
       have w7 : (9223372036854775807 < i + (a0.size - (i + 1))) = False := impl_Near.big (by omega)
       obtain ⟨ys1, hp1, hg1⟩ : ∃ ys1, impl_Near.put k a0 ys (a0.extract 0 i ++ a0.extract (i + 1) a0.size) = some ys1 ∧ impl_Near.go k a0 (M.swpAt a0 i ++ M.candsFrom a0 (i + 1)) ys1 = some r0 := by
        have e := HC3.out; rw [M.delAt, if_pos e1] at e
        exact Option.bind_eq_some_iff.1 e
       have HP1 := am hp1; have HG1 := am hg1; clear hp1 hg1
       have w14 : (9223372036854775807 < a0.size) = False := impl_Near.big (by omega)
       have w15 : (9223372036854775807 < i + (a0.size - (i + 1))) = False := impl_Near.big (by omega)
       by_cases e2 : i + 1 < a0.size
       ·have e2b : (i + 1 < a0.size) = True := eq_true e2
        have e2c : decide (i + 1 < a0.size) = true := decide_eq_true e2
        have e2d : (i + 2 ≤ a0.size) = True := eq_true e2
        have b2 : ((i : Int) + 2 ≤ (a0.size : Int)) = True := eq_true (by omega)
        have b3 : (0 ≤ (i : Int) + 2) = True := eq_true (by omega)
        have b4 : ((i : Int) + 1 ≤ (i : Int) + 2) = True := eq_true (by omega)
        have b5 : ((i : Int) ≤ (i : Int) + 1) = True := eq_true (by omega)
        have b6 : (i + 1 ≤ i + 2) = True := eq_true (by omega)
        have b7 : (i ≤ i + 1) = True := eq_true (by omega)
        have z4 : (a0.extract (i + 1) (i + 2)).size = 1 := by rw [M.size_extract _ _ _ (by omega) (by omega)]; omega
        have z5 : (a0.extract i (i + 1)).size = 1 := by rw [M.size_extract _ _ _ (by omega) (by omega)]; omega
        have z6 : (a0.extract (i + 2) a0.size).size = a0.size - (i + 2) := M.size_extract _ _ _ (by omega) (Nat.le_refl _)
        have w8 : (9223372036854775807 < i + 1) = False := impl_Near.big (by omega)
        have w9 : (9223372036854775807 < i + 1 + 1) = False := impl_Near.big (by omega)
        have w10 : (9223372036854775807 < i + 1 + 1 + (a0.size - (i + 2))) = False := impl_Near.big (by omega)
        have w11 : (9223372036854775807 < i + (i + 2 - (i + 1))) = False := impl_Near.big (by omega)
        have w12 : (9223372036854775807 < i + 2) = False := impl_Near.big (by omega)
        have w13 : (9223372036854775807 < i + 2 + (a0.size - (i + 2))) = False := impl_Near.big (by omega)
        obtain ⟨ys2, hp2, hg2⟩ : ∃ ys2, impl_Near.put k a0 ys1 (((a0.extract 0 i ++ a0.extract (i + 1) (i + 2)) ++ a0.extract i (i + 1)) ++ a0.extract (i + 2) a0.size) = some ys2 ∧ impl_Near.go k a0 (M.candsFrom a0 (i + 1)) ys2 = some r0 := by
         have e := HG1.out; rw [M.swpAt, if_pos e2] at e
         exact Option.bind_eq_some_iff.1 e
        have HP2 := am hp2; have HG2 := am hg2; clear hp2 hg2
        have t2 : ((i : Int) + 2).toNat = i + 2 := by omega
        have t1 : ((i : Int) + 1).toNat = i + 1 := by omega
        go_wp2; have HSA := am HSC.out.drew
        refine st (n := 10) (S := fun w' => w'.cell? ⟨B1, 0, none⟩ = some (.string a0)) (ds := []) ((blk_cell HSA.out.b1 0).trans rfl) (fun hHeld => ?_); refine with_tabW impl_Near.tab16 impl_Near.bits16 (fun HT_ HW_ => ?_)
        refine pu 0 58 ?_
        refine tk1 1 59 hHeld ?_
        refine pu 2 60 ?_
        refine pu 3 61 ?_
        refine tk1 4 62 hHeld ?_
        refine pu 5 63 ?_
        refine pu 6 64 ?_
        refine pu 7 65 ?_
        refine pu 8 66 ?_
        refine on1 9 67 (fun K hK => ?_)
        refine call_ 115 #[.string (a0.extract 0 i ++ a0.extract (i + 1) a0.size), .pointer (some ⟨B1, 0, none⟩), .pointer (some ⟨B3, 0, none⟩)] (by rfl) rfl b38_ ?_
        refine (impl_Near.putc k a0 _ _ _ w _ B1 B3 HSA.out HP1.out).mono ?_
        rintro e wn ⟨rfl, hSn⟩
        refine ⟨_, rfl, ?_⟩
        have HSN := am hSn; clear hSn
        refine hK.out _ _ ((blk_cell HSN.out.b1 0).trans rfl) (fun hHeld => ?_)
        clear hK K
        refine norm_ (a' := ?_) ?_ ?_
        rotate_left
        ·show Act.put _ (some 67) _ = _
         simp only [Act.put, List.setIfInBounds_toArray, List.set_cons_zero, List.set_cons_succ, i64_w, i32_w]
         rfl
        refine done_ (done_of HT_.out (by kernel_rfl)) ?_
        clear HT_ HW_; go_wp2; clear hHeld; have HSB := am HSN.out.drew
        refine st (n := 23) (S := fun w' => w'.cell? ⟨B1, 0, none⟩ = some (.string a0)) (ds := []) ((blk_cell HSB.out.b1 0).trans rfl) (fun hHeld => ?_); refine with_tabW impl_Near.tab18 impl_Near.bits18 (fun HT_ HW_ => ?_)
        refine pu 0 73 ?_
        refine tk1 1 74 hHeld ?_
        refine pu 2 75 ?_
        refine pu 3 76 ?_
        refine tk1 4 77 hHeld ?_
        refine pu 5 78 ?_
        refine pu 6 79 ?_
        refine pu 7 80 ?_
        refine pu 8 81 ?_
        refine pu 9 82 ?_
        refine pu 10 83 ?_
        refine tk1 11 84 hHeld ?_
        refine pu 12 85 ?_
        refine pu 13 86 ?_
        refine pu 14 87 ?_
        refine pu 15 88 ?_
        refine pu 16 89 ?_
        refine tk1 17 90 hHeld ?_
        refine pu 18 91 ?_
        refine pu 19 92 ?_
        refine pu 20 93 ?_
        refine pu 21 94 ?_
        refine on1 22 95 (fun K hK => ?_)
        refine call_ 115 #[.string (((a0.extract 0 i ++ a0.extract (i + 1) (i + 2)) ++ a0.extract i (i + 1)) ++ a0.extract (i + 2) a0.size), .pointer (some ⟨B1, 0, none⟩), .pointer (some ⟨B3, 0, none⟩)] (by rfl) rfl b38_ ?_
        refine (impl_Near.putc k a0 _ _ _ w _ B1 B3 HSB.out HP2.out).mono ?_
        rintro e wn ⟨rfl, hSn⟩
        refine ⟨_, rfl, ?_⟩
        have HSM := am hSn; clear hSn
        refine hK.out _ _ ((blk_cell HSM.out.b1 0).trans rfl) (fun hHeld => ?_)
        clear hK K
        refine norm_ (a' := ?_) ?_ ?_
        rotate_left
        ·show Act.put _ (some 95) _ = _
         simp only [Act.put, List.setIfInBounds_toArray, List.set_cons_zero, List.set_cons_succ, i64_w, i32_w]
         rfl
        refine done_ (done_of HT_.out (by kernel_rfl)) ?_
        clear HT_ HW_; go_wp2
        go_roundg k0
        case measure => have := HK.out; have := HLE.out; omega
        case rel => exact ⟨i + 1, ys2, (by first | rfl | rw [hw] | simp [hw]), ⟨by have := HLE.out; omega⟩, ⟨by have := HK.out; omega⟩, HSM, HG2⟩
       ·have e2b : (i + 1 < a0.size) = False := eq_false e2
        have e2c : decide (i + 1 < a0.size) = false := decide_eq_false e2
        have HG2 := am (show impl_Near.go k a0 (M.candsFrom a0 (i + 1)) ys1 = some r0 by
         have e := HG1.out; rw [M.swpAt, if_neg e2] at e
         exact e)
        go_wp2; have HSA := am HSC.out.drew
        refine st (n := 10) (S := fun w' => w'.cell? ⟨B1, 0, none⟩ = some (.string a0)) (ds := []) ((blk_cell HSA.out.b1 0).trans rfl) (fun hHeld => ?_); refine with_tabW impl_Near.tab16 impl_Near.bits16 (fun HT_ HW_ => ?_)
        refine pu 0 58 ?_
        refine tk1 1 59 hHeld ?_
        refine pu 2 60 ?_
        refine pu 3 61 ?_
        refine tk1 4 62 hHeld ?_
        refine pu 5 63 ?_
        refine pu 6 64 ?_
        refine pu 7 65 ?_
        refine pu 8 66 ?_
        refine on1 9 67 (fun K hK => ?_)
        refine call_ 115 #[.string (a0.extract 0 i ++ a0.extract (i + 1) a0.size), .pointer (some ⟨B1, 0, none⟩), .pointer (some ⟨B3, 0, none⟩)] (by rfl) rfl b38_ ?_
        refine (impl_Near.putc k a0 _ _ _ w _ B1 B3 HSA.out HP1.out).mono ?_
        rintro e wn ⟨rfl, hSn⟩
        refine ⟨_, rfl, ?_⟩
        have HSN := am hSn; clear hSn
        refine hK.out _ _ ((blk_cell HSN.out.b1 0).trans rfl) (fun hHeld => ?_)
        clear hK K
        refine norm_ (a' := ?_) ?_ ?_
        rotate_left
        ·show Act.put _ (some 67) _ = _
         simp only [Act.put, List.setIfInBounds_toArray, List.set_cons_zero, List.set_cons_succ, i64_w, i32_w]
         rfl
        refine done_ (done_of HT_.out (by kernel_rfl)) ?_
        clear HT_ HW_; go_wp2
        go_roundg k0
        case measure => have := HK.out; have := HLE.out; omega
        case rel => exact ⟨i + 1, ys1, (by first | rfl | rw [hw] | simp [hw]), ⟨by have := HLE.out; omega⟩, ⟨by have := HK.out; omega⟩, HSN, HG2⟩
      ·have e1b : (i < a0.size) = False := eq_false e1
       have e1c : decide (i < a0.size) = false := decide_eq_false e1
       have e2b : (i + 1 < a0.size) = False := eq_false (by omega)
       have e2c : decide (i + 1 < a0.size) = false := decide_eq_false (by omega)
       have HG2 := am (show impl_Near.go k a0 (M.candsFrom a0 (i + 1)) ys = some r0 by
        have e := HC3.out
        rw [M.delAt, if_neg e1, M.swpAt, if_neg (by omega)] at e
        exact e)
       go_wp2
       go_roundg k0
       case measure => have := HK.out; have := HLE.out; omega
       case rel => exact ⟨i + 1, ys, (by first | rfl | rw [hw] | simp [hw]), ⟨by have := HLE.out; omega⟩, ⟨by have := HK.out; omega⟩, HSC, HG2⟩
   ·have cb : decide ((i : Int) ≤ (a0.size : Int)) = false := decide_eq_false c
    have cb2 : (i ≤ a0.size) = False := eq_false (by omega)
    have cb3 : decide (i ≤ a0.size) = false := decide_eq_false (by omega)
    have HE := am (show xs = r0 by
     have e := HC.out
     rw [M.candsFrom_end a0 i (by omega)] at e
     exact Option.some.inj e)
    obtain ⟨v3, hb3, hr3⟩ := HS.out.row; obtain ⟨A3, c3, rfl⟩ := Kd.R_slice hr3
    have hcell3 : wr.cell? ⟨B3, 0, none⟩ = some (.slice A3 xs.length c3) := (blk_cell hb3 0).trans rfl
    have HR3 := am hr3; clear hb3 hr3 c
    go_wp2_with (go_at_call 116; refine (impl_sorted.calls A3 c3 xs r _ (Kd.R_reads' HR3.out).2.2 (Kd.R_reads' HR3.out).2.1 (by rw [HE.out]; exact HF.out)).mono ?_; rintro e w' ⟨v0, rfl, hR, hB⟩; have HRR := am hR; have HBB := am hB; clear hR hB)
    go_ret
    exact ⟨v0, rfl, Kd.R_lower HRR.out (below_size HS.out.below), below_step HS.out.below HBB.out⟩
end Go.Proofs.Ytfpmfaelodfecaa.QFnExactMachineGuesses
