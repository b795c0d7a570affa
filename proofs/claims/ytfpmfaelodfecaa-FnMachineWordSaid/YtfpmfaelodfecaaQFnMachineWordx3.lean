import Derived.Test.YtfpmfaelodfecaaQFnMachineWordx0
import Derived.Test.YtfpmfaelodfecaaQFnMachineWordx2
import Derived.Test.YtfpmfaelodfecaaVMSh2
namespace Go.Proofs.Ytfpmfaelodfecaa.QFnMachineWord
open Go.RowKit Go.Proofs.YtfpmfaelodfecaaW.PrintWords Go.Proofs.YtfpmfaelodfecaaW.PrintLast Go.Proofs.YtfpmfaelodfecaaW.PrintMore Go.Proofs.Ytfpmfaelodfecaa.Sh
attribute [local go_sem] max2_int min2_int max_two min_two max_three min_three max_four min_four   -- for this text's walks alone
set_option linter.unusedVariables false
set_option linter.unusedSimpArgs false
-- shrunk

/-! ### impl_MachineOk: function 44 -/
mutual
def impl_MachineOk.l0 : Nat → List (S94) → List Int → Int → Option (Bool)
 | 0, _, _, _ => none
 | k + 1, x0, x3, x4 => if x4 ≥ 0 then (if 0 ≤ x4 then (if x4 < (x0.length : Int) then (if x4 > 0 then (if ((rd_T94 x0 x4).f0 = true) then (impl_MachineOk.j1 k x0 x3 x4 false ((rd_T94 x0 x4).f0) ((rd_T94 x0 x4).f1)) else (impl_MachineOk.j1 k x0 x3 x4 ((((rd_T94 x0 x4).f1).length : Int) == 0) ((rd_T94 x0 x4).f0) ((rd_T94 x0 x4).f1))) else (impl_MachineOk.j1 k x0 x3 x4 false ((rd_T94 x0 x4).f0) ((rd_T94 x0 x4).f1))) else (none)) else (none)) else (if 0 < (x3.length : Int) then (some (decide ((rd x3 0) ≤ 12))) else (none))
def impl_MachineOk.j1 : Nat → List (S94) → List Int → Int → Bool → Bool → List (S100) → Option (Bool)
 | 0, _, _, _, _, _, _ => none
 | k + 1, x0, x3, x4, x38, x108000, x108001 => if x38 = true then (some false) else (if 0 ≤ x4 then (if x4 < (x3.length : Int) then ((some (x3.set (x4 : Int).toNat (-1) : List Int)).bind fun y108 => (if x108000 = true then (impl_MachineOk.j2 k x0 (y108.set (x4 : Int).toNat 0) x4 x108000 x108001) else (impl_MachineOk.j2 k x0 y108 x4 x108000 x108001))) else (none)) else (none))
def impl_MachineOk.j2 : Nat → List (S94) → List Int → Int → Bool → List (S100) → Option (Bool)
 | 0, _, _, _, _, _ => none
 | k + 1, x0, x3, x4, x108000, x108001 => impl_MachineOk.l1 k x0 x3 x4 x108001 (x108001.length : Int) 0 x108000 x108001
def impl_MachineOk.l1 : Nat → List (S94) → List Int → Int → List (S100) → Int → Int → Bool → List (S100) → Option (Bool)
 | 0, _, _, _, _, _, _, _, _ => none
 | k + 1, x0, x3, x4, x48, x49, x50, x108000, x108001 => if x50 < x49 then (if 0 ≤ x50 then (if x50 < (x48.length : Int) then ((impl_within.f ((rd_T100 x48 x50).f0) 97 122).bind fun t112 => (if t112 = true then (if x50 > 0 then (if 0 ≤ (wrap64 (x50 - 1)) then (if (wrap64 (x50 - 1)) < (x108001.length : Int) then (if ((rd_T100 x108001 (wrap64 (x50 - 1))).f0) ≥ ((rd_T100 x48 x50).f0) then (impl_MachineOk.j4 k x0 x3 x4 x48 x49 x50 true x108000 x108001 ((rd_T100 x48 x50).f0) ((rd_T100 x48 x50).f1)) else ((impl_within.f ((rd_T100 x48 x50).f1) (wrap64 (x4 + 1)) (wrap64 ((x0.length : Int) - 1))).bind fun t114 => (impl_MachineOk.j4 k x0 x3 x4 x48 x49 x50 (!t114) x108000 x108001 ((rd_T100 x48 x50).f0) ((rd_T100 x48 x50).f1)))) else (none)) else (none)) else ((impl_within.f ((rd_T100 x48 x50).f1) (wrap64 (x4 + 1)) (wrap64 ((x0.length : Int) - 1))).bind fun t115 => (impl_MachineOk.j4 k x0 x3 x4 x48 x49 x50 (!t115) x108000 x108001 ((rd_T100 x48 x50).f0) ((rd_T100 x48 x50).f1)))) else (impl_MachineOk.j4 k x0 x3 x4 x48 x49 x50 true x108000 x108001 ((rd_T100 x48 x50).f0) ((rd_T100 x48 x50).f1)))) else (none)) else (none)) else (impl_MachineOk.l0 k x0 x3 (wrap64 (x4 - 1)))
def impl_MachineOk.j4 : Nat → List (S94) → List Int → Int → List (S100) → Int → Int → Bool → Bool → List (S100) → Int → Int → Option (Bool)
 | 0, _, _, _, _, _, _, _, _, _, _, _ => none
 | k + 1, x0, x3, x4, x48, x49, x50, x85, x108000, x108001, x112000, x112001 => if x85 = true then (some false) else (if 0 ≤ x112001 then (if x112001 < (x3.length : Int) then (if (rd x3 x112001) ≥ 0 then (if 0 ≤ x4 then (if x4 < (x3.length : Int) then (impl_MachineOk.l1 k x0 (x3.set (x4 : Int).toNat (mx (rd x3 x4) (wrap64 ((rd x3 x112001) + 1)))) x4 x48 x49 (wrap64 (x50 + 1)) x108000 x108001) else (none)) else (none)) else (impl_MachineOk.l1 k x0 x3 x4 x48 x49 (wrap64 (x50 + 1)) x108000 x108001)) else (none)) else (none))
end
def impl_MachineOk.f (k : Nat) (l0 : List (S94)) : Option (Bool) := (impl_within.f (l0.length : Int) 1 400).bind fun t101 => (if t101 = true then (if 0 ≤ (l0.length : Int) then (if l0.length ≤ 35184372088832 then (impl_MachineOk.l0 k l0 (List.replicate l0.length 0) (wrap64 ((l0.length : Int) - 1))) else (none)) else (none)) else (some false))
def impl_MachineOk.T16 : Bool × List (List Nat × List Nat) := (true, [([], []), ([0], [0]), ([1], [1]), ([2], [2]), ([3, 2], [3]), ([4], [4]), ([5, 4], [4, 5]), ([6, 4, 4], [4, 6]), ([7], [7]), ([8, 7], [7, 8]), ([7], [7]), ([10, 7], [7, 10]), ([9, 11, 7], [7, 9, 11]), ([12, 7], [7, 12]), ([13, 7], [7, 13]), ([7], [7]), ([15, 7], [7, 15]), ([14, 16, 7], [7, 14, 16]), ([7, 17, 4], [4, 7, 17]), ([4, 18], [4, 18]), ([19, 7], [19]), ([20], [20]), ([21, 20], [20, 21]), ([20], [20]), ([23, 20], [20, 23]), ([20], [20]), ([25, 20], [20, 25]), ([26, 20], [20, 26]), ([22, 24, 27, 20, 20], [20, 22, 24, 27]), ([28, 20], [20, 28]), ([20, 29], [20, 29])])
def impl_MachineOk.B16 : List Nat := [0, 1, 3, 7, 15, 31, 63, 127, 255, 511, 255, 1279, 4095, 8191, 16383, 255, 33023, 131071, 262143, 524287, 1048575, 2097151, 4194303, 2097151, 10485759, 2097151, 35651583, 102760447, 268435455, 536870911, 1073741823]
theorem impl_MachineOk.tab16 : rtab .any (opsOf Try.f44 16) = impl_MachineOk.T16 := by kernel_rfl
theorem impl_MachineOk.bits16 : waitsOk impl_MachineOk.T16.2 impl_MachineOk.B16 = true := by kernel_rfl
def impl_MachineOk.T19 : Bool × List (List Nat × List Nat) := (true, [([], []), ([], []), ([], []), ([], []), ([2, 3], [2, 3]), ([4], [4]), ([], []), ([], []), ([7], [7]), ([6, 8], [6, 8]), ([9], [9]), ([10], [10]), ([5, 11], [5, 11]), ([0, 1, 0, 1, 2, 3, 4, 5, 6, 7, 8, 9, 10, 11, 12], [0, 1]), ([13, 12, 0, 1, 2, 3, 4, 5, 6, 7, 8, 9, 10, 11, 12], [12, 13])])
def impl_MachineOk.B19 : List Nat := [0, 0, 0, 0, 12, 28, 0, 0, 128, 448, 960, 1984, 4092, 8191, 16383]
theorem impl_MachineOk.tab19 : rtab .any (opsOf Try.f44 19) = impl_MachineOk.T19 := by kernel_rfl
theorem impl_MachineOk.bits19 : waitsOk impl_MachineOk.T19.2 impl_MachineOk.B19 = true := by kernel_rfl
set_option maxHeartbeats 8000000 in
set_option maxRecDepth 100000 in
theorem impl_MachineOk.calls (k : Nat) (A0 : Option Addr) (c0 : Nat) (l0 : List (S94)) (r : Bool) (w : World) (hr0 : Kd.C k94 w A0 l0.length l0) (hc0 : l0.length ≤ c0) (h : impl_MachineOk.f k l0 = some r) :
  Calls Try.prog 44 #[.slice A0 l0.length c0] w fun e w' => e = .returned (.bool r) ∧ Below w.heap.size w w' := by
 have hu94 := Try.underlying94; have hu100 := Try.underlying100; have HR0 := am hr0; have HC0 := am hc0; clear hr0 hc0; have HB := am (Below.refl w.heap.size w)
 have H : ((impl_within.f (l0.length : Int) 1 400).bind fun t101 => (if t101 = true then (if 0 ≤ (l0.length : Int) then (if l0.length ≤ 35184372088832 then (impl_MachineOk.l0 k l0 (List.replicate l0.length 0) (wrap64 ((l0.length : Int) - 1))) else (none)) else (none)) else (some false))) = some r := h
 clear h; replace H := Option.bind_eq_some_iff.mp H; obtain ⟨t101, A20, H⟩ := H; replace H : (if t101 = true then (if 0 ≤ (l0.length : Int) then (if l0.length ≤ 35184372088832 then (impl_MachineOk.l0 k l0 (List.replicate l0.length 0) (wrap64 ((l0.length : Int) - 1))) else (none)) else (none)) else (some false)) = some r := H; have A2 := Aside0.mk A20; clear A20
 by_cases c3 : t101 = true
 ·subst c3
  have H1 : (if 0 ≤ (l0.length : Int) then (if l0.length ≤ 35184372088832 then (impl_MachineOk.l0 k l0 (List.replicate l0.length 0) (wrap64 ((l0.length : Int) - 1))) else (none)) else (none)) = some r := b20_
  replace H := H1; clear H1
  by_cases c4 : 0 ≤ (l0.length : Int)
  ·rw [if_pos c4] at H; have c4b0 := eq_true c4
   have c4b1 : decide (0 ≤ (l0.length : Int)) = true := decide_eq_true c4
   clear c4
   by_cases c5 : l0.length ≤ 35184372088832
   ·rw [if_pos c5] at H; have c5b0 := eq_true c5
    have c5b1 : decide (l0.length ≤ 35184372088832) = true := decide_eq_true c5
    clear c5; obtain ⟨y102, hy102⟩ : ∃ y_ : List Int, y_ = (List.replicate l0.length 0) := ⟨_, rfl⟩
    replace H : (impl_MachineOk.l0 k l0 y102 (wrap64 ((l0.length : Int) - 1))) = some r := by first | (rw [hy102]; with_reducible exact H) | (have H2_ := (Option.bind_some _ _).symm.trans H; rw [hy102]; with_reducible exact H2_) | (have H2_ := (Option.bind_some _ _).symm.trans H; with_reducible exact H2_) | with_reducible exact H | (rw [hy102]; exact H) | exact H
    have Ny102 := am hy102; clear hy102
    have H' := am H
    clear H; go_enter Try.func44, Try.ntmps44
    go_wp2_with (first | ((with_reducible refine gate_callee (f := 81) rfl ?_); refine goesL_ (some 10) rfl rfl Try.func81 (by kernel_rfl) rfl #[.int .i64 (l0.length : Int), .int .i64 1, .int .i64 400] rfl mq ?_; (with_reducible refine (impl_within.calls (l0.length : Int) 1 400 true _ A2.out).mono ?_); rintro e w' ⟨rfl, ⟨nd, rfl⟩⟩; refine ⟨_, rfl, ?_⟩) | ((with_reducible refine gate_dst (N := 14) rfl ?_); (try (refine gate_guard (by rfl) ?_; dsimp only)); refine Kd.R_make (Kd.int .i64) _ 3 rfl (N := 14) rfl 86 _ _ rfl (l0.length : Int) rfl rfl Try.underlying86 (.int .i64 0) 8 info3 rfl (by decide) (by omega) 0 (ok := fun _ => True) (okp := fun _ => True) rfl (fun _ hk => hk) trivial (of_decide_eq_true ad) (Nat.le_trans (Nat.mul_le_mul_right _ (of_decide_eq_true ad : (l0.length : Int).toNat ≤ 35184372088832)) (by omega)) (Below.refl _ _) (Nat.le_refl _) ?_; intro v103 w6 ho7 hb hg_ hnew_; clear hg_ hnew_; (first | rw [← Ny102.out] at ho7 | (simp only [Int.reduceToNat] at ho7; rw [← Ny102.out] at ho7) | (simp only [Int.toNat_natCast] at ho7; rw [← Ny102.out] at ho7)); have HO104 := am (Kd.R_lower ho7 (below_size bel)); replace HB := am (below_step bel hb); clear hb ho7))
    go_loopg [4] k (fun kq v4 w' => ∃ (x3_1 : List Int) (x4_1 : Int), v4 = .int .i64 x4_1 ∧ Aside0 (impl_MachineOk.l0 kq l0 x3_1 x4_1 = some r) ∧ Aside0 (kq ≤ k) ∧ Aside0 (Kd.R (Kd.int .i64) 3 w' w.heap.size (fun _ => True) v103 x3_1) ∧ Aside0 (Below w.heap.size w w'))
    case atStart => exact ⟨(y102), (wrap64 ((l0.length : Int) - 1)), sq, H', ⟨Nat.le_refl _⟩, ⟨rq HO104.out⟩, ⟨bel⟩⟩
    case round =>
     clear H'; (try clear p2); (try clear c3); (try clear c4); (try clear c4b0); (try clear c4b1); (try clear c5); (try clear c5b0); (try clear c5b1); (try clear p6); obtain ⟨x3_1, x4_1, rfl, HA, HK1, HO_3, HB⟩ := hrel
     cases gk with
     | zero => exact absurd HA.out (by simp [impl_MachineOk.l0])
     | succ k1 =>
      have H := HA.out; clear HA
      simp only [impl_MachineOk.l0] at H
      by_cases c8 : x4_1 ≥ 0
      ·rw [if_pos c8] at H; have c8b0 := decide_eq_true c8; clear c8
       by_cases c9 : 0 ≤ x4_1
       ·rw [if_pos c9] at H; have c9b0 := decide_eq_true c9; clear c9
        by_cases c10 : x4_1 < (l0.length : Int)
        ·rw [if_pos c10] at H; have c10b0 := decide_eq_true c10; clear c10; have HC11 := am H; clear H
         have p106 : 0 ≤ (x4_1 : Int) := of_decide_eq_true ad
         have q106 : x4_1 < (l0.length : Int) := of_decide_eq_true ad
         obtain ⟨ad106, A106_1, c106_1, e106, hx106_0, hx106_1, hl106_1, hi106_1⟩ := at_T94 HR0.out x4_1 p106 q106
         cases e106
         replace hx106_0 := kp HB.out hx106_0; replace hx106_1 := kp HB.out hx106_1; have HR106_1 := am hi106_1; have HC106_1 := am hl106_1; clear hi106_1 hl106_1; replace p106 := eq_true p106; replace q106 := eq_true q106
         go_upto_region 8 with (first | ((with_reducible refine gate_dst (N := 5) rfl ?_); (try (refine gate_guard (by rfl) ?_; dsimp only)); refine bx 5 (cs := #[.bool false, .slice none 0 0]) (t := 94) ?_; intro gb107 hg w12 hbox hb; replace HO_3 := am (Kd.R_below (rq HO_3.out) hb); have BK107 := am (hbox); have GW107 := am ((b13_ : w.heap.size ≤ gb107)); have GE107 := am ((b13_ : w.heap.size ≤ gb107)); replace HB := am (below_step bel hb); clear hb hbox hg; have hcz13_0 := bc BK107.out 0; have hcz13_1 := bc BK107.out 1; have hfz13_0 := bf BK107.out 0; have hfz13_1 := bf BK107.out 1))
         (try simp only [Act.put, List.setIfInBounds_toArray, List.set_cons_zero, List.set_cons_succ])
         go_cut [38] (fun v38 wc => ∃ (kq : Nat) (x38_10 : Bool), v38 = .bool x38_10 ∧ Aside0 (impl_MachineOk.j1 kq l0 x3_1 x4_1 x38_10 ((rd_T94 l0 x4_1).f0) ((rd_T94 l0 x4_1).f1) = some r) ∧ Aside0 (kq ≤ k1) ∧ Aside0 (Kd.R (Kd.int .i64) 3 wc w.heap.size (fun _ => True) v103 x3_1) ∧ Aside0 (wc.heap[gb107]? = some (.cells #[.bool ((rd_T94 l0 x4_1).f0), (.slice A106_1 ((rd_T94 l0 x4_1).f1).length c106_1)] 94 (0, 0))) ∧ Aside0 (Below w.heap.size w wc))
         case first =>
          have H := HC11.out; clear HC11
          by_cases c14 : x4_1 > 0
          ·rw [if_pos c14] at H; have c14b0 := decide_eq_true c14; clear c14
           (first | rw [c14b0] | (simp only [i64_w, i32_w]; rw [c14b0]) | skip)
           obtain ⟨bq15, hbq15⟩ : ∃ b_ : Bool, b_ = ((rd_T94 l0 x4_1).f0) := ⟨_, rfl⟩
           replace H : (if (bq15 = true) then (impl_MachineOk.j1 k1 l0 x3_1 x4_1 false bq15 ((rd_T94 l0 x4_1).f1)) else (impl_MachineOk.j1 k1 l0 x3_1 x4_1 ((((rd_T94 l0 x4_1).f1).length : Int) == 0) bq15 ((rd_T94 l0 x4_1).f1))) = some r := by rw [← hbq15] at H; exact H
           have Nbq15 := am hbq15; clear hbq15
           by_cases c16 : (bq15 = true)
           ·subst c16
            (try rw [← Nbq15.out] at hx106_0)
            (try rw [← Nbq15.out])
            have H1 : (impl_MachineOk.j1 k1 l0 x3_1 x4_1 false true ((rd_T94 l0 x4_1).f1)) = some r := b20_
            replace H := H1; clear H1
            have H' := am H
            clear H; have hcz17_0 := bc BK107.out 0; have hcz17_1 := bc BK107.out 1; have hfz17_0 := bf BK107.out 0; have hfz17_1 := bf BK107.out 1; go_wp2
            go_meet
            case rel => (try rw [← Nbq15.out]); exact ⟨_, (false), sq, H', ⟨b24_⟩, ⟨rq (Kd.R_mono (Kd.R_far (p := ⟨gb107, 1, none⟩) (Kd.R_far (p := ⟨gb107, 0, none⟩) (Kd.R_types HO_3.out BK107.out (by decide)) (fun _ hk => hk.2) (.bool (true))) (fun _ hk => hk.2) (.slice A106_1 ((rd_T94 l0 x4_1).f1).length c106_1)) (fun _ hk => trivial))⟩, ⟨by (with_reducible repeat (first | refine blk_drewN ?_ _ | refine blk_drew ?_ | refine blk_alloc ?_ _)); refine blk_put (cs := #[.bool (true), .slice none 0 0]) ?_ 1 _ rfl; (with_reducible repeat (first | refine blk_drewN ?_ _ | refine blk_drew ?_ | refine blk_alloc ?_ _)); refine blk_put (cs := #[.bool false, .slice none 0 0]) ?_ 0 _ rfl; (with_reducible repeat (first | refine blk_drewN ?_ _ | refine blk_drew ?_ | refine blk_alloc ?_ _)); exact BK107.out⟩, ⟨bel1 GE107.out⟩⟩
           ·replace c16 := Bool.eq_false_iff.mpr c16; subst c16
            (try rw [← Nbq15.out] at hx106_0)
            (try rw [← Nbq15.out])
            have H1 : (impl_MachineOk.j1 k1 l0 x3_1 x4_1 ((((rd_T94 l0 x4_1).f1).length : Int) == 0) false ((rd_T94 l0 x4_1).f1)) = some r := b6_
            replace H := H1; clear H1
            have H' := am H
            clear H; have hcz18_0 := bc BK107.out 0; have hcz18_1 := bc BK107.out 1; have hfz18_0 := bf BK107.out 0; have hfz18_1 := bf BK107.out 1; go_wp2
            go_meet
            case rel => (try rw [← Nbq15.out]); exact ⟨_, (((((rd_T94 l0 x4_1).f1).length : Int) == 0)), sq, H', ⟨b24_⟩, ⟨rq (Kd.R_mono (Kd.R_far (p := ⟨gb107, 1, none⟩) (Kd.R_far (p := ⟨gb107, 0, none⟩) (Kd.R_types HO_3.out BK107.out (by decide)) (fun _ hk => hk.2) (.bool (false))) (fun _ hk => hk.2) (.slice A106_1 ((rd_T94 l0 x4_1).f1).length c106_1)) (fun _ hk => trivial))⟩, ⟨by (with_reducible repeat (first | refine blk_drewN ?_ _ | refine blk_drew ?_ | refine blk_alloc ?_ _)); refine blk_put (cs := #[.bool (false), .slice none 0 0]) ?_ 1 _ rfl; (with_reducible repeat (first | refine blk_drewN ?_ _ | refine blk_drew ?_ | refine blk_alloc ?_ _)); refine blk_put (cs := #[.bool false, .slice none 0 0]) ?_ 0 _ rfl; (with_reducible repeat (first | refine blk_drewN ?_ _ | refine blk_drew ?_ | refine blk_alloc ?_ _)); exact BK107.out⟩, ⟨bel1 GE107.out⟩⟩
          ·rw [if_neg c14] at H; have c14b0 := decide_eq_false c14; clear c14
           (first | rw [c14b0] | (simp only [i64_w, i32_w]; rw [c14b0]) | skip)
           have H' := am H
           clear H; go_wp2
           go_meet
           case rel => exact ⟨_, (false), sq, H', ⟨b24_⟩, ⟨rq (Kd.R_mono (Kd.R_far (p := ⟨gb107, 1, none⟩) (Kd.R_far (p := ⟨gb107, 0, none⟩) (Kd.R_types HO_3.out BK107.out (by decide)) (fun _ hk => hk.2) (.bool ((rd_T94 l0 x4_1).f0))) (fun _ hk => hk.2) (.slice A106_1 ((rd_T94 l0 x4_1).f1).length c106_1)) (fun _ hk => trivial))⟩, ⟨by (with_reducible repeat (first | refine blk_drewN ?_ _ | refine blk_drew ?_ | refine blk_alloc ?_ _)); refine blk_put (cs := #[.bool ((rd_T94 l0 x4_1).f0), .slice none 0 0]) ?_ 1 _ rfl; (with_reducible repeat (first | refine blk_drewN ?_ _ | refine blk_drew ?_ | refine blk_alloc ?_ _)); refine blk_put (cs := #[.bool false, .slice none 0 0]) ?_ 0 _ rfl; (with_reducible repeat (first | refine blk_drewN ?_ _ | refine blk_drew ?_ | refine blk_alloc ?_ _)); exact BK107.out⟩, ⟨bel1 GE107.out⟩⟩
         case rest =>
          clear HC11; (try clear c1); (try clear p1); (try clear q1); (try clear hx1); (try clear p2); (try clear c3); (try clear c4); (try clear c4b0); (try clear c4b1); (try clear c5); (try clear c5b0); (try clear c5b1); (try clear p6); (try clear c8); (try clear c8b0); (try clear c9); (try clear c9b0); (try clear c10); (try clear c10b0); (try clear p10); (try clear q10); (try clear hx10); (try clear c14); (try clear c14b0); (try clear q15); (try clear c16); (try clear hcz13_0); (try clear hcz13_1); (try clear hcz17_0); (try clear hcz17_1); (try clear hcz18_0); (try clear hcz18_1); (try clear hfz13_0); (try clear hfz13_1); (try clear hfz17_0); (try clear hfz17_1); (try clear hfz18_0); (try clear hfz18_1); (try clear hx106_0); (try clear hx106_1); (try clear p106); (try clear p2); (try clear p6); (try clear q106); obtain ⟨kq, x38_10, rfl, HA, HJ10, HO_3, BK107, HB⟩ := hcut
          cases kq with
          | zero => exact absurd HA.out (by simp [impl_MachineOk.j1])
          | succ kj10 =>
           have H := HA.out; clear HA
           simp only [impl_MachineOk.j1] at H
           by_cases c19 : x38_10 = true
           ·subst c19
            have H1 : (some false) = some r := b20_
            replace H := H1; clear H1
            obtain rfl := Option.some.inj H; go_wp2; go_ret
            exact ⟨eq_, bel1 GE107.out⟩
           ·replace c19 := Bool.eq_false_iff.mpr c19; subst c19
            have H1 : (if 0 ≤ x4_1 then (if x4_1 < (x3_1.length : Int) then ((some (x3_1.set (x4_1 : Int).toNat (-1) : List Int)).bind fun y108 => (if ((rd_T94 l0 x4_1).f0) = true then (impl_MachineOk.j2 kj10 l0 (y108.set (x4_1 : Int).toNat 0) x4_1 ((rd_T94 l0 x4_1).f0) ((rd_T94 l0 x4_1).f1)) else (impl_MachineOk.j2 kj10 l0 y108 x4_1 ((rd_T94 l0 x4_1).f0) ((rd_T94 l0 x4_1).f1)))) else (none)) else (none)) = some r := b6_
            replace H := H1; clear H1
            by_cases c20 : 0 ≤ x4_1
            ·rw [if_pos c20] at H; have c20b0 := decide_eq_true c20; clear c20
             by_cases c21 : x4_1 < (x3_1.length : Int)
             ·rw [if_pos c21] at H; have c21b0 := decide_eq_true c21; clear c21; obtain ⟨y108, hy108⟩ : ∃ y_ : List Int, y_ = (x3_1.set (x4_1 : Int).toNat (-1)) := ⟨_, rfl⟩
              replace H : (if ((rd_T94 l0 x4_1).f0) = true then (impl_MachineOk.j2 kj10 l0 (y108.set (x4_1 : Int).toNat 0) x4_1 ((rd_T94 l0 x4_1).f0) ((rd_T94 l0 x4_1).f1)) else (impl_MachineOk.j2 kj10 l0 y108 x4_1 ((rd_T94 l0 x4_1).f0) ((rd_T94 l0 x4_1).f1))) = some r := by first | (rw [hy108]; with_reducible exact H) | (have H2_ := (Option.bind_some _ _).symm.trans H; rw [hy108]; with_reducible exact H2_) | (have H2_ := (Option.bind_some _ _).symm.trans H; with_reducible exact H2_) | with_reducible exact H | (rw [hy108]; exact H) | exact H
              have Ny108 := am hy108; clear hy108; have HC23 := am H; clear H
              have p22 : 0 ≤ (x4_1 : Int) := of_decide_eq_true ad
              have q22 : (x4_1 : Int) < ((x3_1.length : Int) : Int) := of_decide_eq_true ad
              obtain ⟨go22, co22, eo22, gb22, gl22, cl22, HG22⟩ := Kd.R_form HO_3.out (by omega)
              (first | cases eo22 | (injection eo22 with ea_ en_ ec_; (first | subst ea_ | (injection ea_ with ea_; subst ea_)); subst ec_; clear en_))
              have GB22 := Aside0.mk gb22; have GG22 := am HG22; clear gb22 gl22 HG22; obtain ⟨hx22_0, hf22_0⟩ := Kd.R_celln 0 HO_3.out (x4_1 : Int) p22 q22; replace p22 := eq_true p22; replace q22 := eq_true q22; have HP24 := Kd.R_putg HO_3.out (x4_1 : Int) (-1)
              go_upto_if 43 with (first | ((with_reducible refine gate_store (t := 3) (p := 41) rfl ?_); refine store_event (t := 3) (p := 41) (v := ?vo_w25) (w1 := (wc.setCell ⟨go22, (x4_1 : Int).toNat, none⟩ (.int .i64 (-1)))) ?hg ?ho ?hn ?hr ?_; (case ho => rfl); (case hg => rfl); (case hn => rfl); (case hr => first | (go_simp; done) | (go_simp; rfl)); intro w25 hw; have hg : wc.grownBy w25 (some go22) := (by rw [hw]; exact HP24.2); have hp_ : Kd.R (Kd.int .i64) 3 w25 w.heap.size (fun _ => True) (.slice (some ⟨go22, 0, none⟩) x3_1.length co22) y108 := (by rw [hw, Ny108.out]; exact HP24.1); clear HP24; replace BK107 := am (blk_grown (g := gb107) (o := .cells #[.bool ((rd_T94 l0 x4_1).f0), .slice A106_1 ((rd_T94 l0 x4_1).f1).length c106_1] 94 (0, 0)) (bq BK107.out) hg (Kd.R_ne HO_3.out BK107.out (by decide))); replace HO_3 := am (hp_); replace HB := am ((by rw [hw]; exact below_set (HB.out) GB22.out : Below w.heap.size w w25)); clear hg hw hp_; have hcz26_0 := bc BK107.out 0; have hcz26_1 := bc BK107.out 1; have hfz26_0 := bf BK107.out 0; have hfz26_1 := bf BK107.out 1))
              (try simp only [Act.put, List.setIfInBounds_toArray, List.set_cons_zero, List.set_cons_succ])
              go_cut [] (fun wc => ∃ (kq : Nat) (x3_22 : List Int), Aside0 (impl_MachineOk.j2 kq l0 x3_22 x4_1 ((rd_T94 l0 x4_1).f0) ((rd_T94 l0 x4_1).f1) = some r) ∧ Aside0 (kq ≤ kj10) ∧ Aside0 (Kd.R (Kd.int .i64) 3 wc w.heap.size (fun _ => True) (.slice (some ⟨go22, 0, none⟩) x3_1.length co22) x3_22) ∧ Aside0 (wc.heap[gb107]? = some (.cells #[.bool ((rd_T94 l0 x4_1).f0), (.slice A106_1 ((rd_T94 l0 x4_1).f1).length c106_1)] 94 (0, 0))) ∧ Aside0 (Below w.heap.size w wc))
              case first =>
               have H := HC23.out; clear HC23
               by_cases c27 : ((rd_T94 l0 x4_1).f0) = true
               ·rw [if_pos c27] at H
                have c27b0 : ((rd_T94 l0 x4_1).f0) = true := c27
                clear c27
                (first | rw [c27b0] | (simp only [i64_w, i32_w]; rw [c27b0]) | skip)
                obtain ⟨y109, hy109⟩ : ∃ y_ : List Int, y_ = (y108.set (x4_1 : Int).toNat 0) := ⟨_, rfl⟩
                replace H : (impl_MachineOk.j2 kj10 l0 y109 x4_1 ((rd_T94 l0 x4_1).f0) ((rd_T94 l0 x4_1).f1)) = some r := by first | (rw [hy109]; with_reducible exact H) | (have H2_ := (Option.bind_some _ _).symm.trans H; rw [hy109]; with_reducible exact H2_) | (have H2_ := (Option.bind_some _ _).symm.trans H; with_reducible exact H2_) | with_reducible exact H | (rw [hy109]; exact H) | exact H
                have Ny109 := am hy109; clear hy109
                have H' := am H
                clear H
                have p28 : 0 ≤ (x4_1 : Int) := of_decide_eq_true ad
                have q28 : (x4_1 : Int) < ((x3_1.length : Int) : Int) := of_decide_eq_true ad
                obtain ⟨hx28_0, hf28_0⟩ := Kd.R_celln 0 HO_3.out (x4_1 : Int) p28 q28; replace p28 := eq_true p28; replace q28 := eq_true q28; have HP29 := Kd.R_putg HO_3.out (x4_1 : Int) 0
                go_wp2_with (first | ((with_reducible refine gate_store (t := 3) (p := 46) rfl ?_); refine store_event (t := 3) (p := 46) (v := ?vo_w30) (w1 := (w25.setCell ⟨go22, (x4_1 : Int).toNat, none⟩ (.int .i64 0))) ?hg ?ho ?hn ?hr ?_; (case ho => rfl); (case hg => rfl); (case hn => rfl); (case hr => first | (go_simp; done) | (go_simp; rfl)); intro w30 hw; have hg : w25.grownBy w30 (some go22) := (by rw [hw]; exact HP29.2); have hp_ : Kd.R (Kd.int .i64) 3 w30 w.heap.size (fun _ => True) (.slice (some ⟨go22, 0, none⟩) x3_1.length co22) y109 := (by rw [hw, Ny109.out]; exact HP29.1); clear HP29; replace BK107 := am (blk_grown (g := gb107) (o := .cells #[.bool ((rd_T94 l0 x4_1).f0), .slice A106_1 ((rd_T94 l0 x4_1).f1).length c106_1] 94 (0, 0)) (bq BK107.out) hg (Kd.R_ne HO_3.out BK107.out (by decide))); replace HO_3 := am (hp_); replace HB := am ((by rw [hw]; exact below_set (HB.out) GB22.out : Below w.heap.size w w30)); clear hg hw hp_))
                go_meet
                case rel => exact ⟨_, (y109), H', ⟨by have := HK1.out; have := HJ10.out; first | omega | exact Nat.le_refl _⟩, ⟨rq HO_3.out⟩, ⟨bq BK107.out⟩, ⟨bel1 GE107.out⟩⟩
               ·rw [if_neg c27] at H
                have c27b0 : ((rd_T94 l0 x4_1).f0) = false := by simpa using c27
                clear c27
                (first | rw [c27b0] | (simp only [i64_w, i32_w]; rw [c27b0]) | skip)
                have H' := am H
                clear H; go_wp2
                go_meet
                case rel => exact ⟨_, (y108), H', ⟨by have := HK1.out; have := HJ10.out; first | omega | exact Nat.le_refl _⟩, ⟨rq HO_3.out⟩, ⟨bq BK107.out⟩, ⟨bel1 GE107.out⟩⟩
              case rest =>
               clear HC23; (try clear c1); (try clear p1); (try clear q1); (try clear hx1); (try clear c2); (try clear p2); (try clear q2); (try clear hx2); (try clear hf2); (try clear c3); (try clear c4); (try clear c4b0); (try clear c4b1); (try clear c5); (try clear c5b0); (try clear c5b1); (try clear p6); (try clear c8); (try clear c8b0); (try clear c9); (try clear c9b0); (try clear c10); (try clear c10b0); (try clear p10); (try clear q10); (try clear hx10); (try clear c14); (try clear c14b0); (try clear q15); (try clear c16); (try clear c19); (try clear c20); (try clear c20b0); (try clear c21); (try clear c21b0); (try clear p22); (try clear q22); (try clear hx22); (try clear hf22); (try clear c27); (try clear c27b0); (try clear p28); (try clear q28); (try clear hx28); (try clear hf28); (try clear hcz13_0); (try clear hcz13_1); (try clear hcz17_0); (try clear hcz17_1); (try clear hcz18_0); (try clear hcz18_1); (try clear hcz26_0); (try clear hcz26_1); (try clear hfz13_0); (try clear hfz13_1); (try clear hfz17_0); (try clear hfz17_1); (try clear hfz18_0); (try clear hfz18_1); (try clear hfz26_0); (try clear hfz26_1); (try clear hx106_0); (try clear hx106_1); (try clear hx22_0); (try clear hx28_0); (try clear p1); (try clear p10); (try clear p106); (try clear p2); (try clear p22); (try clear p28); (try clear p6); (try clear q1); (try clear q10); (try clear q106); (try clear q15); (try clear q22); (try clear q28); obtain ⟨kq, x3_22, HA, HJ22, HO_3, BK107, HB⟩ := hcut; have hl3_22 := (Kd.R_reads' HO_3.out).1; rw [hl3_22] at HO_3
               (try simp only [hl3_22])
               (try simp only [hl3_22] at BK107)
               cases kq with
               | zero => exact absurd HA.out (by simp [impl_MachineOk.j2])
               | succ kj22 =>
                have H := HA.out; clear HA
                simp only [impl_MachineOk.j2] at H
                have H' := am H
                clear H; have hcz31_0 := bc BK107.out 0; have hcz31_1 := bc BK107.out 1; have hfz31_0 := bf BK107.out 0; have hfz31_1 := bf BK107.out 1; go_wp2
                go_loopg [50] kj22 (fun kq v50 w' => ∃ (x3_4 : List Int) (x50_4 : Int), v50 = .int .i64 x50_4 ∧ Aside0 (impl_MachineOk.l1 kq l0 x3_4 x4_1 ((rd_T94 l0 x4_1).f1) (((rd_T94 l0 x4_1).f1).length : Int) x50_4 ((rd_T94 l0 x4_1).f0) ((rd_T94 l0 x4_1).f1) = some r) ∧ Aside0 (kq ≤ kj22) ∧ Aside0 (Kd.R (Kd.int .i64) 3 w' w.heap.size (fun _ => True) (.slice (some ⟨go22, 0, none⟩) x3_22.length co22) x3_4) ∧ Aside0 (w'.heap[gb107]? = some (.cells #[.bool ((rd_T94 l0 x4_1).f0), (.slice A106_1 ((rd_T94 l0 x4_1).f1).length c106_1)] 94 (0, 0))) ∧ Aside0 (Below w.heap.size w w'))
                case atStart => exact ⟨(x3_22), (0), sq, H', ⟨Nat.le_refl _⟩, ⟨by (try simp only [hl3_22]); (with_reducible repeat (first | apply Kd.R_alloc | apply Kd.R_drewN | apply Kd.R_drew)); exact HO_3.out⟩, ⟨by (try simp only [hl3_22]); (with_reducible repeat (first | refine blk_drewN ?_ _ | refine blk_drew ?_ | refine blk_alloc ?_ _)); exact BK107.out⟩, ⟨bel1 GE107.out⟩⟩
                case round =>
                 clear H'; (try clear c1); (try clear p1); (try clear q1); (try clear hx1); (try clear c2); (try clear p2); (try clear q2); (try clear hx2); (try clear hf2); (try clear c3); (try clear c4); (try clear c4b0); (try clear c4b1); (try clear c5); (try clear c5b0); (try clear c5b1); (try clear p6); (try clear c8); (try clear c8b0); (try clear c9); (try clear c9b0); (try clear c10); (try clear c10b0); (try clear p10); (try clear q10); (try clear hx10); (try clear c14); (try clear c14b0); (try clear q15); (try clear c16); (try clear c19); (try clear c20); (try clear c20b0); (try clear c21); (try clear c21b0); (try clear p22); (try clear q22); (try clear hx22); (try clear hf22); (try clear c27); (try clear c27b0); (try clear p28); (try clear q28); (try clear hx28); (try clear hf28); (try clear hcz13_0); (try clear hcz13_1); (try clear hcz17_0); (try clear hcz17_1); (try clear hcz18_0); (try clear hcz18_1); (try clear hcz26_0); (try clear hcz26_1); (try clear hcz31_0); (try clear hcz31_1); (try clear hfz13_0); (try clear hfz13_1); (try clear hfz17_0); (try clear hfz17_1); (try clear hfz18_0); (try clear hfz18_1); (try clear hfz26_0); (try clear hfz26_1); (try clear hfz31_0); (try clear hfz31_1); (try clear hx106_0); (try clear hx106_1); (try clear hx22_0); (try clear hx28_0); (try clear p1); (try clear p10); (try clear p106); (try clear p2); (try clear p22); (try clear p28); (try clear p6); (try clear q1); (try clear q10); (try clear q106); (try clear q15); (try clear q2); (try clear q22); (try clear q28); obtain ⟨x3_4, x50_4, rfl, HA, HK4, HO_3, BK107, HB⟩ := hrel; have hl3_4 := (Kd.R_reads' HO_3.out).1; rw [hl3_4] at HO_3
                 (try simp only [hl3_4])
                 (try simp only [hl3_4] at BK107)
                 cases gk with
                 | zero => exact absurd HA.out (by simp [impl_MachineOk.l1])
                 | succ k4 =>
                  have H := HA.out; clear HA
                  simp only [impl_MachineOk.l1] at H
                  by_cases c32 : x50_4 < (((rd_T94 l0 x4_1).f1).length : Int)
                  ·rw [if_pos c32] at H; have c32b0 := decide_eq_true c32; clear c32
                   by_cases c33 : 0 ≤ x50_4
                   ·rw [if_pos c33] at H; have c33b0 := decide_eq_true c33; clear c33
                    by_cases c34 : x50_4 < (((rd_T94 l0 x4_1).f1).length : Int)
                    ·rw [if_pos c34] at H; have c34b0 := decide_eq_true c34; clear c34; have HC35 := am H; clear H
                     have p110 : 0 ≤ (x50_4 : Int) := of_decide_eq_true ad
                     have q110 : x50_4 < (((rd_T94 l0 x4_1).f1).length : Int) := of_decide_eq_true ad
                     obtain ⟨ad110, e110, hx110_0, hx110_1⟩ := at_T100 HR106_1.out x50_4 p110 q110
                     cases e110
                     replace hx110_0 := kp HB.out hx110_0; replace hx110_1 := kp HB.out hx110_1; replace p110 := eq_true p110; replace q110 := eq_true q110
                     go_upto_region 16 with (first | ((with_reducible refine gate_dst (N := 7) rfl ?_); (try (refine gate_guard (by rfl) ?_; dsimp only)); refine bx 7 (cs := #[.int .i64 0, .int .i64 0]) (t := 100) ?_; intro gb111 hg w36 hbox hb; replace HO_3 := am (Kd.R_below (rq HO_3.out) hb); have BK111 := am (hbox); have GW111 := am ((by rw [hg]; exact (below_size (bel1 GE107.out)) : w.heap.size ≤ gb111)); have GE111 := am ((by rw [hg]; exact (below_size (bel1 GE107.out)) : w.heap.size ≤ gb111)); replace HB := am (below_step (bel1 GE107.out) hb); have NB107_111 := am ((by rw [hg]; exact Nat.ne_of_lt (blk_lt (g := gb107) (o := .cells #[.bool ((rd_T94 l0 x4_1).f0), .slice (some ad110) ((rd_T94 l0 x4_1).f1).length c106_1] 94 (0, 0)) (bq BK107.out)) : gb107 ≠ gb111)); have NB111_107 := am ((by rw [hg]; exact Nat.ne_of_gt (blk_lt (g := gb107) (o := .cells #[.bool ((rd_T94 l0 x4_1).f0), .slice (some ad110) ((rd_T94 l0 x4_1).f1).length c106_1] 94 (0, 0)) (bq BK107.out)) : gb111 ≠ gb107)); replace BK107 := am (blk_below (g := gb107) (o := .cells #[.bool ((rd_T94 l0 x4_1).f0), .slice (some ad110) ((rd_T94 l0 x4_1).f1).length c106_1] 94 (0, 0)) (bq BK107.out) hb); clear hb hbox hg; have hnb37 := NB111_107.out; have hnc37 := NB107_111.out; have hcz38_0 := bc BK111.out 0; have hcz38_1 := bc BK111.out 1; have hfz38_0 := bf BK111.out 0; have hfz38_1 := bf BK111.out 1))
                     (try simp only [Act.put, List.setIfInBounds_toArray, List.set_cons_zero, List.set_cons_succ])
                     go_cut [85] (fun v85 wc => ∃ (kq : Nat) (x85_34 : Bool), v85 = .bool x85_34 ∧ Aside0 (impl_MachineOk.j4 kq l0 x3_4 x4_1 ((rd_T94 l0 x4_1).f1) (((rd_T94 l0 x4_1).f1).length : Int) x50_4 x85_34 ((rd_T94 l0 x4_1).f0) ((rd_T94 l0 x4_1).f1) ((rd_T100 ((rd_T94 l0 x4_1).f1) x50_4).f0) ((rd_T100 ((rd_T94 l0 x4_1).f1) x50_4).f1) = some r) ∧ Aside0 (kq ≤ k4) ∧ Aside0 (Kd.R (Kd.int .i64) 3 wc w.heap.size (fun _ => True) (.slice (some ⟨go22, 0, none⟩) x3_4.length co22) x3_4) ∧ Aside0 (wc.heap[gb107]? = some (.cells #[.bool ((rd_T94 l0 x4_1).f0), (.slice (some ad110) ((rd_T94 l0 x4_1).f1).length c106_1)] 94 (0, 0))) ∧ Aside0 (wc.heap[gb111]? = some (.cells #[.int .i64 ((rd_T100 ((rd_T94 l0 x4_1).f1) x50_4).f0), .int .i64 ((rd_T100 ((rd_T94 l0 x4_1).f1) x50_4).f1)] 100 (0, 0))) ∧ Aside0 (Below w.heap.size w wc))
                     case first =>
                      have H := HC35.out; clear HC35; replace H := Option.bind_eq_some_iff.mp H; obtain ⟨t112, A390, H⟩ := H; replace H : (if t112 = true then (if x50_4 > 0 then (if 0 ≤ (wrap64 (x50_4 - 1)) then (if (wrap64 (x50_4 - 1)) < (((rd_T94 l0 x4_1).f1).length : Int) then (if ((rd_T100 ((rd_T94 l0 x4_1).f1) (wrap64 (x50_4 - 1))).f0) ≥ ((rd_T100 ((rd_T94 l0 x4_1).f1) x50_4).f0) then (impl_MachineOk.j4 k4 l0 x3_4 x4_1 ((rd_T94 l0 x4_1).f1) (((rd_T94 l0 x4_1).f1).length : Int) x50_4 true ((rd_T94 l0 x4_1).f0) ((rd_T94 l0 x4_1).f1) ((rd_T100 ((rd_T94 l0 x4_1).f1) x50_4).f0) ((rd_T100 ((rd_T94 l0 x4_1).f1) x50_4).f1)) else ((impl_within.f ((rd_T100 ((rd_T94 l0 x4_1).f1) x50_4).f1) (wrap64 (x4_1 + 1)) (wrap64 ((l0.length : Int) - 1))).bind fun t114 => (impl_MachineOk.j4 k4 l0 x3_4 x4_1 ((rd_T94 l0 x4_1).f1) (((rd_T94 l0 x4_1).f1).length : Int) x50_4 (!t114) ((rd_T94 l0 x4_1).f0) ((rd_T94 l0 x4_1).f1) ((rd_T100 ((rd_T94 l0 x4_1).f1) x50_4).f0) ((rd_T100 ((rd_T94 l0 x4_1).f1) x50_4).f1)))) else (none)) else (none)) else ((impl_within.f ((rd_T100 ((rd_T94 l0 x4_1).f1) x50_4).f1) (wrap64 (x4_1 + 1)) (wrap64 ((l0.length : Int) - 1))).bind fun t115 => (impl_MachineOk.j4 k4 l0 x3_4 x4_1 ((rd_T94 l0 x4_1).f1) (((rd_T94 l0 x4_1).f1).length : Int) x50_4 (!t115) ((rd_T94 l0 x4_1).f0) ((rd_T94 l0 x4_1).f1) ((rd_T100 ((rd_T94 l0 x4_1).f1) x50_4).f0) ((rd_T100 ((rd_T94 l0 x4_1).f1) x50_4).f1)))) else (impl_MachineOk.j4 k4 l0 x3_4 x4_1 ((rd_T94 l0 x4_1).f1) (((rd_T94 l0 x4_1).f1).length : Int) x50_4 true ((rd_T94 l0 x4_1).f0) ((rd_T94 l0 x4_1).f1) ((rd_T100 ((rd_T94 l0 x4_1).f1) x50_4).f0) ((rd_T100 ((rd_T94 l0 x4_1).f1) x50_4).f1))) = some r := H; have A39 := Aside0.mk A390; clear A390
                      by_cases c40 : t112 = true
                      ·subst c40
                       have H1 : (if x50_4 > 0 then (if 0 ≤ (wrap64 (x50_4 - 1)) then (if (wrap64 (x50_4 - 1)) < (((rd_T94 l0 x4_1).f1).length : Int) then (if ((rd_T100 ((rd_T94 l0 x4_1).f1) (wrap64 (x50_4 - 1))).f0) ≥ ((rd_T100 ((rd_T94 l0 x4_1).f1) x50_4).f0) then (impl_MachineOk.j4 k4 l0 x3_4 x4_1 ((rd_T94 l0 x4_1).f1) (((rd_T94 l0 x4_1).f1).length : Int) x50_4 true ((rd_T94 l0 x4_1).f0) ((rd_T94 l0 x4_1).f1) ((rd_T100 ((rd_T94 l0 x4_1).f1) x50_4).f0) ((rd_T100 ((rd_T94 l0 x4_1).f1) x50_4).f1)) else ((impl_within.f ((rd_T100 ((rd_T94 l0 x4_1).f1) x50_4).f1) (wrap64 (x4_1 + 1)) (wrap64 ((l0.length : Int) - 1))).bind fun t114 => (impl_MachineOk.j4 k4 l0 x3_4 x4_1 ((rd_T94 l0 x4_1).f1) (((rd_T94 l0 x4_1).f1).length : Int) x50_4 (!t114) ((rd_T94 l0 x4_1).f0) ((rd_T94 l0 x4_1).f1) ((rd_T100 ((rd_T94 l0 x4_1).f1) x50_4).f0) ((rd_T100 ((rd_T94 l0 x4_1).f1) x50_4).f1)))) else (none)) else (none)) else ((impl_within.f ((rd_T100 ((rd_T94 l0 x4_1).f1) x50_4).f1) (wrap64 (x4_1 + 1)) (wrap64 ((l0.length : Int) - 1))).bind fun t115 => (impl_MachineOk.j4 k4 l0 x3_4 x4_1 ((rd_T94 l0 x4_1).f1) (((rd_T94 l0 x4_1).f1).length : Int) x50_4 (!t115) ((rd_T94 l0 x4_1).f0) ((rd_T94 l0 x4_1).f1) ((rd_T100 ((rd_T94 l0 x4_1).f1) x50_4).f0) ((rd_T100 ((rd_T94 l0 x4_1).f1) x50_4).f1)))) = some r := b20_
                       replace H := H1; clear H1
                       by_cases c41 : x50_4 > 0
                       ·rw [if_pos c41] at H; have c41b0 := decide_eq_true c41; clear c41
                        (first | rw [c41b0] | (simp only [i64_w, i32_w]; rw [c41b0]) | skip)
                        obtain ⟨ji42, hji42⟩ : ∃ j_ : Int, (wrap64 (x50_4 - 1)) = j_ := ⟨_, rfl⟩
                        replace H : (if 0 ≤ (ji42) then (if (ji42) < (((rd_T94 l0 x4_1).f1).length : Int) then (if ((rd_T100 ((rd_T94 l0 x4_1).f1) (ji42)).f0) ≥ ((rd_T100 ((rd_T94 l0 x4_1).f1) x50_4).f0) then (impl_MachineOk.j4 k4 l0 x3_4 x4_1 ((rd_T94 l0 x4_1).f1) (((rd_T94 l0 x4_1).f1).length : Int) x50_4 true ((rd_T94 l0 x4_1).f0) ((rd_T94 l0 x4_1).f1) ((rd_T100 ((rd_T94 l0 x4_1).f1) x50_4).f0) ((rd_T100 ((rd_T94 l0 x4_1).f1) x50_4).f1)) else ((impl_within.f ((rd_T100 ((rd_T94 l0 x4_1).f1) x50_4).f1) (wrap64 (x4_1 + 1)) (wrap64 ((l0.length : Int) - 1))).bind fun t114 => (impl_MachineOk.j4 k4 l0 x3_4 x4_1 ((rd_T94 l0 x4_1).f1) (((rd_T94 l0 x4_1).f1).length : Int) x50_4 (!t114) ((rd_T94 l0 x4_1).f0) ((rd_T94 l0 x4_1).f1) ((rd_T100 ((rd_T94 l0 x4_1).f1) x50_4).f0) ((rd_T100 ((rd_T94 l0 x4_1).f1) x50_4).f1)))) else (none)) else (none)) = some r := by first | (rw [hji42] at H; exact H) | (simp only [hji42] at H ⊢; exact H)
                        (try rw [hji42] at A39)
                        have hji42w : (IntKind.i64.wrap (x50_4 - 1)) = ji42 := (i64_w _).trans hji42
                        by_cases c43 : 0 ≤ (ji42)
                        ·rw [if_pos c43] at H; have c43b0 := decide_eq_true c43; clear c43
                         by_cases c44 : (ji42) < (((rd_T94 l0 x4_1).f1).length : Int)
                         ·rw [if_pos c44] at H; have c44b0 := decide_eq_true c44; clear c44
                          by_cases c45 : ((rd_T100 ((rd_T94 l0 x4_1).f1) (ji42)).f0) ≥ ((rd_T100 ((rd_T94 l0 x4_1).f1) x50_4).f0)
                          ·rw [if_pos c45] at H; have c45b0 := decide_eq_true c45; clear c45
                           have H' := am H
                           clear H
                           try go_wp2
                           have n0_ : Aside0 (Kd.R (Kd.int .i64) 3 ((w36.setCell ⟨gb111, 0, none⟩ (.int .i64 ((rd_T100 ((rd_T94 l0 x4_1).f1) x50_4).f0))).setCell ⟨gb111, 1, none⟩ (.int .i64 ((rd_T100 ((rd_T94 l0 x4_1).f1) x50_4).f1))) w.heap.size (fun _ => True) (.slice (some ⟨go22, 0, none⟩) x3_4.length co22) x3_4) := ⟨rq (Kd.R_mono (Kd.R_far (p := ⟨gb111, 1, none⟩) (Kd.R_far (p := ⟨gb111, 0, none⟩) (Kd.R_types HO_3.out BK111.out (by decide)) (fun _ hk => hk.2) (.int .i64 ((rd_T100 ((rd_T94 l0 x4_1).f1) x50_4).f0))) (fun _ hk => hk.2) (.int .i64 ((rd_T100 ((rd_T94 l0 x4_1).f1) x50_4).f1))) (fun _ hk => trivial))⟩
                           have n1_ : Aside0 (((w36.setCell ⟨gb111, 0, none⟩ (.int .i64 ((rd_T100 ((rd_T94 l0 x4_1).f1) x50_4).f0))).setCell ⟨gb111, 1, none⟩ (.int .i64 ((rd_T100 ((rd_T94 l0 x4_1).f1) x50_4).f1))).heap[gb107]? = some (.cells #[.bool ((rd_T94 l0 x4_1).f0), .slice (some ad110) ((rd_T94 l0 x4_1).f1).length c106_1] 94 (0, 0))) := ⟨b15_⟩
                           have n2_ : Aside0 (((w36.setCell ⟨gb111, 0, none⟩ (.int .i64 ((rd_T100 ((rd_T94 l0 x4_1).f1) x50_4).f0))).setCell ⟨gb111, 1, none⟩ (.int .i64 ((rd_T100 ((rd_T94 l0 x4_1).f1) x50_4).f1))).heap[gb111]? = some (.cells #[.int .i64 ((rd_T100 ((rd_T94 l0 x4_1).f1) x50_4).f0), .int .i64 ((rd_T100 ((rd_T94 l0 x4_1).f1) x50_4).f1)] 100 (0, 0))) := ⟨b11_⟩
                           have n3_ : Aside0 (Below w.heap.size w ((w36.setCell ⟨gb111, 0, none⟩ (.int .i64 ((rd_T100 ((rd_T94 l0 x4_1).f1) x50_4).f0))).setCell ⟨gb111, 1, none⟩ (.int .i64 ((rd_T100 ((rd_T94 l0 x4_1).f1) x50_4).f1)))) := ⟨bel2 GE107.out GE111.out⟩
                           (try clear HO_3)
                           (try clear BK107)
                           (try clear BK111)
                           (try clear HB)
                           generalize ((w36.setCell ⟨gb111, 0, none⟩ (.int .i64 ((rd_T100 ((rd_T94 l0 x4_1).f1) x50_4).f0))).setCell ⟨gb111, 1, none⟩ (.int .i64 ((rd_T100 ((rd_T94 l0 x4_1).f1) x50_4).f1))) = w46 at n0_ n1_ n2_ n3_ ⊢
                           have HO_3 := n0_; have BK107 := n1_; have BK111 := n2_; have HB := n3_; clear n0_ n1_ n2_ n3_; replace HO_3 := am (Kd.R_drew HO_3.out); replace BK107 := am (blk_drew BK107.out); replace BK111 := am (blk_drew BK111.out); replace HB := am (below_drew1 HB.out)
                           have p113 : 0 ≤ ((ji42) : Int) := of_decide_eq_true ad
                           have q113 : (ji42) < (((rd_T94 l0 x4_1).f1).length : Int) := of_decide_eq_true ad
                           obtain ⟨ad113, e113, hx113_0, hx113_1⟩ := at_T100 HR106_1.out (ji42) p113 q113; have hw113_1 := hx113_1; have hw113_0 := hx113_0
                           obtain rfl : ad110 = ad113 := (by injection e113)
                           replace hx113_0 := kp HB.out hx113_0; replace hx113_1 := kp HB.out hx113_1; replace p113 := eq_true p113; replace q113 := eq_true q113
                           refine st (n := 31) (S := fun w' => w'.cell? ⟨gb111, 0, none⟩ = some (.int .i64 ((rd_T100 ((rd_T94 l0 x4_1).f1) x50_4).f0)) ∧ w'.cell? ⟨gb111, 1, none⟩ = some (.int .i64 ((rd_T100 ((rd_T94 l0 x4_1).f1) x50_4).f1)) ∧ w'.cell? ⟨gb107, 0, none⟩ = some (.bool ((rd_T94 l0 x4_1).f0)) ∧ w'.cell? ⟨gb107, 1, none⟩ = some (.slice (some ad110) ((rd_T94 l0 x4_1).f1).length c106_1) ∧ w'.cell? (ad110.add (((ji42)).toNat * 2)) = some (.int .i64 ((rd_T100 ((rd_T94 l0 x4_1).f1) (ji42)).f0)) ∧ w'.cell? ⟨(ad110.add (((ji42)).toNat * 2)).block, (ad110.add (((ji42)).toNat * 2)).off + 1, none⟩ = some (.int .i64 ((rd_T100 ((rd_T94 l0 x4_1).f1) (ji42)).f1))) (ds := []) ⟨(blk_cell BK111.out 0).trans rfl, (blk_cell BK111.out 1).trans rfl, (blk_cell BK107.out 0).trans rfl, (blk_cell BK107.out 1).trans rfl, (kp HB.out hw113_0), (kp HB.out hw113_1)⟩ (fun hHeld => ?_); refine with_tabW impl_MachineOk.tab16 impl_MachineOk.bits16 (fun HT_ HW_ => ?_)
                           generalize w46.drew = w47 at HO_3 BK107 BK111 HB hx113_0 hx113_1 hHeld ⊢
                           refine pu 0 55 ?_
                           refine tk6 1 56 hHeld ?_
                           refine on1 2 57 (fun K hK => ?_)
                           refine goes_ Try.func81 (by kernel_rfl) rfl #[.int .i64 ((rd_T100 ((rd_T94 l0 x4_1).f1) x50_4).f0), .int .i64 97, .int .i64 122] (by rfl) rfl rfl mq ?_
                           with_reducible refine (impl_within.calls ((rd_T100 ((rd_T94 l0 x4_1).f1) x50_4).f0) 97 122 true _ A39.out).mono ?_
                           rintro e w' ⟨rfl, ⟨nd, rfl⟩⟩
                           refine ⟨_, rfl, ?_⟩
                           refine hK.out _ _ ⟨(blk_cell BK111.out 0).trans rfl, (blk_cell BK111.out 1).trans rfl, (blk_cell BK107.out 0).trans rfl, (blk_cell BK107.out 1).trans rfl, (kp HB.out hw113_0), (kp HB.out hw113_1)⟩ (fun hHeld => ?_)
                           clear hK K
                           refine norm_ (a' := ?_) ?_ ?_
                           rotate_left
                           ·show Act.put _ (some 57) _ = _
                            simp only [Act.put, List.setIfInBounds_toArray, List.set_cons_zero, List.set_cons_succ, i64_w, i32_w]
                            rfl
                           refine pu 3 58 ?_
                           refine pu 4 59 ?_
                           refine pu 5 60 ?_
                           refine pu 6 61 ?_
                           refine pu 7 62 ?_
                           refine pu 8 63 ?_
                           refine pu 10 65 ?_
                           refine pu 11 66 ?_
                           refine pu 15 70 ?_
                           refine tk6 9 64 hHeld ?_
                           refine pu 12 67 ?_
                           refine pu 13 68 ?_
                           refine tk6 14 69 hHeld ?_
                           refine tk6 16 71 hHeld ?_
                           refine pu 17 72 ?_
                           refine pu 18 73 ?_
                           refine pu 19 74 ?_
                           refine pu 20 75 ?_
                           refine puu 21 76 ?_
                           refine puu 22 77 ?_
                           refine puu 23 78 ?_
                           refine puu 24 79 ?_
                           refine puu 25 80 ?_
                           refine puu 26 81 ?_
                           refine puu 27 82 ?_
                           refine puu 28 83 ?_
                           refine puu 29 84 ?_
                           refine pu 30 85 ?_
                           refine done_ (done_of HT_.out (by kernel_rfl)) ?_
                           try go_wp2
                           go_meet
                           case rel => exact ⟨_, (true), sq, H', ⟨b54_⟩, ⟨b25_⟩, ⟨b28_⟩, ⟨b41_⟩, ⟨bel2 GE107.out GE111.out⟩⟩
                          ·rw [if_neg c45] at H; have c45b0 := decide_eq_false c45; clear c45; replace H := Option.bind_eq_some_iff.mp H; obtain ⟨t114, A480, H⟩ := H; replace H : (impl_MachineOk.j4 k4 l0 x3_4 x4_1 ((rd_T94 l0 x4_1).f1) (((rd_T94 l0 x4_1).f1).length : Int) x50_4 (!t114) ((rd_T94 l0 x4_1).f0) ((rd_T94 l0 x4_1).f1) ((rd_T100 ((rd_T94 l0 x4_1).f1) x50_4).f0) ((rd_T100 ((rd_T94 l0 x4_1).f1) x50_4).f1)) = some r := H; have A48 := Aside0.mk A480; clear A480
                           have H' := am H
                           clear H
                           try go_wp2
                           have n0_ : Aside0 (Kd.R (Kd.int .i64) 3 ((w36.setCell ⟨gb111, 0, none⟩ (.int .i64 ((rd_T100 ((rd_T94 l0 x4_1).f1) x50_4).f0))).setCell ⟨gb111, 1, none⟩ (.int .i64 ((rd_T100 ((rd_T94 l0 x4_1).f1) x50_4).f1))) w.heap.size (fun _ => True) (.slice (some ⟨go22, 0, none⟩) x3_4.length co22) x3_4) := ⟨rq (Kd.R_mono (Kd.R_far (p := ⟨gb111, 1, none⟩) (Kd.R_far (p := ⟨gb111, 0, none⟩) (Kd.R_types HO_3.out BK111.out (by decide)) (fun _ hk => hk.2) (.int .i64 ((rd_T100 ((rd_T94 l0 x4_1).f1) x50_4).f0))) (fun _ hk => hk.2) (.int .i64 ((rd_T100 ((rd_T94 l0 x4_1).f1) x50_4).f1))) (fun _ hk => trivial))⟩
                           have n1_ : Aside0 (((w36.setCell ⟨gb111, 0, none⟩ (.int .i64 ((rd_T100 ((rd_T94 l0 x4_1).f1) x50_4).f0))).setCell ⟨gb111, 1, none⟩ (.int .i64 ((rd_T100 ((rd_T94 l0 x4_1).f1) x50_4).f1))).heap[gb107]? = some (.cells #[.bool ((rd_T94 l0 x4_1).f0), .slice (some ad110) ((rd_T94 l0 x4_1).f1).length c106_1] 94 (0, 0))) := ⟨b15_⟩
                           have n2_ : Aside0 (((w36.setCell ⟨gb111, 0, none⟩ (.int .i64 ((rd_T100 ((rd_T94 l0 x4_1).f1) x50_4).f0))).setCell ⟨gb111, 1, none⟩ (.int .i64 ((rd_T100 ((rd_T94 l0 x4_1).f1) x50_4).f1))).heap[gb111]? = some (.cells #[.int .i64 ((rd_T100 ((rd_T94 l0 x4_1).f1) x50_4).f0), .int .i64 ((rd_T100 ((rd_T94 l0 x4_1).f1) x50_4).f1)] 100 (0, 0))) := ⟨b11_⟩
                           have n3_ : Aside0 (Below w.heap.size w ((w36.setCell ⟨gb111, 0, none⟩ (.int .i64 ((rd_T100 ((rd_T94 l0 x4_1).f1) x50_4).f0))).setCell ⟨gb111, 1, none⟩ (.int .i64 ((rd_T100 ((rd_T94 l0 x4_1).f1) x50_4).f1)))) := ⟨bel2 GE107.out GE111.out⟩
                           (try clear HO_3)
                           (try clear BK107)
                           (try clear BK111)
                           (try clear HB)
                           generalize ((w36.setCell ⟨gb111, 0, none⟩ (.int .i64 ((rd_T100 ((rd_T94 l0 x4_1).f1) x50_4).f0))).setCell ⟨gb111, 1, none⟩ (.int .i64 ((rd_T100 ((rd_T94 l0 x4_1).f1) x50_4).f1))) = w49 at n0_ n1_ n2_ n3_ ⊢
                           have HO_3 := n0_; have BK107 := n1_; have BK111 := n2_; have HB := n3_; clear n0_ n1_ n2_ n3_; replace HO_3 := am (Kd.R_drew HO_3.out); replace BK107 := am (blk_drew BK107.out); replace BK111 := am (blk_drew BK111.out); replace HB := am (below_drew1 HB.out)
                           have p113 : 0 ≤ ((ji42) : Int) := of_decide_eq_true ad
                           have q113 : (ji42) < (((rd_T94 l0 x4_1).f1).length : Int) := of_decide_eq_true ad
                           obtain ⟨ad113, e113, hx113_0, hx113_1⟩ := at_T100 HR106_1.out (ji42) p113 q113; have hw113_1 := hx113_1; have hw113_0 := hx113_0
                           obtain rfl : ad110 = ad113 := (by injection e113)
                           replace hx113_0 := kp HB.out hx113_0; replace hx113_1 := kp HB.out hx113_1; replace p113 := eq_true p113; replace q113 := eq_true q113
                           refine st (n := 31) (S := fun w' => w'.cell? ⟨gb111, 0, none⟩ = some (.int .i64 ((rd_T100 ((rd_T94 l0 x4_1).f1) x50_4).f0)) ∧ w'.cell? ⟨gb111, 1, none⟩ = some (.int .i64 ((rd_T100 ((rd_T94 l0 x4_1).f1) x50_4).f1)) ∧ w'.cell? ⟨gb107, 0, none⟩ = some (.bool ((rd_T94 l0 x4_1).f0)) ∧ w'.cell? ⟨gb107, 1, none⟩ = some (.slice (some ad110) ((rd_T94 l0 x4_1).f1).length c106_1) ∧ w'.cell? (ad110.add (((ji42)).toNat * 2)) = some (.int .i64 ((rd_T100 ((rd_T94 l0 x4_1).f1) (ji42)).f0)) ∧ w'.cell? ⟨(ad110.add (((ji42)).toNat * 2)).block, (ad110.add (((ji42)).toNat * 2)).off + 1, none⟩ = some (.int .i64 ((rd_T100 ((rd_T94 l0 x4_1).f1) (ji42)).f1))) (ds := []) ⟨(blk_cell BK111.out 0).trans rfl, (blk_cell BK111.out 1).trans rfl, (blk_cell BK107.out 0).trans rfl, (blk_cell BK107.out 1).trans rfl, (kp HB.out hw113_0), (kp HB.out hw113_1)⟩ (fun hHeld => ?_); refine with_tabW impl_MachineOk.tab16 impl_MachineOk.bits16 (fun HT_ HW_ => ?_)
                           generalize w49.drew = w50 at HO_3 BK107 BK111 HB hx113_0 hx113_1 hHeld ⊢
                           refine pu 0 55 ?_
                           refine tk6 1 56 hHeld ?_
                           refine on1 2 57 (fun K hK => ?_)
                           refine goes_ Try.func81 (by kernel_rfl) rfl #[.int .i64 ((rd_T100 ((rd_T94 l0 x4_1).f1) x50_4).f0), .int .i64 97, .int .i64 122] (by rfl) rfl rfl mq ?_
                           with_reducible refine (impl_within.calls ((rd_T100 ((rd_T94 l0 x4_1).f1) x50_4).f0) 97 122 true _ A39.out).mono ?_
                           rintro e w' ⟨rfl, ⟨nd, rfl⟩⟩
                           refine ⟨_, rfl, ?_⟩
                           refine hK.out _ _ ⟨(blk_cell BK111.out 0).trans rfl, (blk_cell BK111.out 1).trans rfl, (blk_cell BK107.out 0).trans rfl, (blk_cell BK107.out 1).trans rfl, (kp HB.out hw113_0), (kp HB.out hw113_1)⟩ (fun hHeld => ?_)
                           clear hK K
                           refine norm_ (a' := ?_) ?_ ?_
                           rotate_left
                           ·show Act.put _ (some 57) _ = _
                            simp only [Act.put, List.setIfInBounds_toArray, List.set_cons_zero, List.set_cons_succ, i64_w, i32_w]
                            rfl
                           refine pu 3 58 ?_
                           refine pu 4 59 ?_
                           refine pu 5 60 ?_
                           refine pu 6 61 ?_
                           refine pu 7 62 ?_
                           refine pu 8 63 ?_
                           refine pu 10 65 ?_
                           refine pu 11 66 ?_
                           refine pu 15 70 ?_
                           refine tk6 9 64 hHeld ?_
                           refine pu 12 67 ?_
                           refine pu 13 68 ?_
                           refine tk6 14 69 hHeld ?_
                           refine tk6 16 71 hHeld ?_
                           refine pu 17 72 ?_
                           refine pu 18 73 ?_
                           refine pu 19 74 ?_
                           refine pu 20 75 ?_
                           refine pu 21 76 ?_
                           refine pu 23 78 ?_
                           refine pu 24 79 ?_
                           refine pu 25 80 ?_
                           refine pu 26 81 ?_
                           refine pu 27 82 ?_
                           refine tk6 22 77 hHeld ?_
                           refine on1 28 83 (fun K hK => ?_)
                           refine goes_ Try.func81 (by kernel_rfl) rfl #[.int .i64 ((rd_T100 ((rd_T94 l0 x4_1).f1) x50_4).f1), .int .i64 (wrap64 (x4_1 + 1)), .int .i64 (wrap64 ((l0.length : Int) - 1))] (by rfl) rfl rfl mq ?_
                           with_reducible refine (impl_within.calls ((rd_T100 ((rd_T94 l0 x4_1).f1) x50_4).f1) (wrap64 (x4_1 + 1)) (wrap64 ((l0.length : Int) - 1)) t114 _ A48.out).mono ?_
                           rintro e w' ⟨rfl, ⟨nd, rfl⟩⟩
                           refine ⟨_, rfl, ?_⟩
                           refine hK.out _ _ ⟨(blk_cell BK111.out 0).trans rfl, (blk_cell BK111.out 1).trans rfl, (blk_cell BK107.out 0).trans rfl, (blk_cell BK107.out 1).trans rfl, (kp HB.out hw113_0), (kp HB.out hw113_1)⟩ (fun hHeld => ?_)
                           clear hK K
                           refine norm_ (a' := ?_) ?_ ?_
                           rotate_left
                           ·show Act.put _ (some 83) _ = _
                            simp only [Act.put, List.setIfInBounds_toArray, List.set_cons_zero, List.set_cons_succ, i64_w, i32_w]
                            rfl
                           refine pu 29 84 ?_
                           refine pu 30 85 ?_
                           refine done_ (done_of HT_.out (by kernel_rfl)) ?_
                           try go_wp2
                           go_meet
                           case rel => exact ⟨_, (!t114), sq, H', ⟨b54_⟩, ⟨b25_⟩, ⟨b28_⟩, ⟨b41_⟩, ⟨bel2 GE107.out GE111.out⟩⟩
                         ·rw [if_neg c44] at H
                          exact absurd H (by simp)
                        ·rw [if_neg c43] at H
                         exact absurd H (by simp)
                       ·rw [if_neg c41] at H; have c41b0 := decide_eq_false c41; clear c41
                        (first | rw [c41b0] | (simp only [i64_w, i32_w]; rw [c41b0]) | skip)
                        replace H := Option.bind_eq_some_iff.mp H; obtain ⟨t115, A510, H⟩ := H; replace H : (impl_MachineOk.j4 k4 l0 x3_4 x4_1 ((rd_T94 l0 x4_1).f1) (((rd_T94 l0 x4_1).f1).length : Int) x50_4 (!t115) ((rd_T94 l0 x4_1).f0) ((rd_T94 l0 x4_1).f1) ((rd_T100 ((rd_T94 l0 x4_1).f1) x50_4).f0) ((rd_T100 ((rd_T94 l0 x4_1).f1) x50_4).f1)) = some r := H; have A51 := Aside0.mk A510; clear A510
                        have H' := am H
                        clear H
                        try go_wp2
                        have n0_ : Aside0 (Kd.R (Kd.int .i64) 3 ((w36.setCell ⟨gb111, 0, none⟩ (.int .i64 ((rd_T100 ((rd_T94 l0 x4_1).f1) x50_4).f0))).setCell ⟨gb111, 1, none⟩ (.int .i64 ((rd_T100 ((rd_T94 l0 x4_1).f1) x50_4).f1))) w.heap.size (fun _ => True) (.slice (some ⟨go22, 0, none⟩) x3_4.length co22) x3_4) := ⟨rq (Kd.R_mono (Kd.R_far (p := ⟨gb111, 1, none⟩) (Kd.R_far (p := ⟨gb111, 0, none⟩) (Kd.R_types HO_3.out BK111.out (by decide)) (fun _ hk => hk.2) (.int .i64 ((rd_T100 ((rd_T94 l0 x4_1).f1) x50_4).f0))) (fun _ hk => hk.2) (.int .i64 ((rd_T100 ((rd_T94 l0 x4_1).f1) x50_4).f1))) (fun _ hk => trivial))⟩
                        have n1_ : Aside0 (((w36.setCell ⟨gb111, 0, none⟩ (.int .i64 ((rd_T100 ((rd_T94 l0 x4_1).f1) x50_4).f0))).setCell ⟨gb111, 1, none⟩ (.int .i64 ((rd_T100 ((rd_T94 l0 x4_1).f1) x50_4).f1))).heap[gb107]? = some (.cells #[.bool ((rd_T94 l0 x4_1).f0), .slice (some ad110) ((rd_T94 l0 x4_1).f1).length c106_1] 94 (0, 0))) := ⟨b15_⟩
                        have n2_ : Aside0 (((w36.setCell ⟨gb111, 0, none⟩ (.int .i64 ((rd_T100 ((rd_T94 l0 x4_1).f1) x50_4).f0))).setCell ⟨gb111, 1, none⟩ (.int .i64 ((rd_T100 ((rd_T94 l0 x4_1).f1) x50_4).f1))).heap[gb111]? = some (.cells #[.int .i64 ((rd_T100 ((rd_T94 l0 x4_1).f1) x50_4).f0), .int .i64 ((rd_T100 ((rd_T94 l0 x4_1).f1) x50_4).f1)] 100 (0, 0))) := ⟨b11_⟩
                        have n3_ : Aside0 (Below w.heap.size w ((w36.setCell ⟨gb111, 0, none⟩ (.int .i64 ((rd_T100 ((rd_T94 l0 x4_1).f1) x50_4).f0))).setCell ⟨gb111, 1, none⟩ (.int .i64 ((rd_T100 ((rd_T94 l0 x4_1).f1) x50_4).f1)))) := ⟨bel2 GE107.out GE111.out⟩
                        (try clear HO_3)
                        (try clear BK107)
                        (try clear BK111)
                        (try clear HB)
                        generalize ((w36.setCell ⟨gb111, 0, none⟩ (.int .i64 ((rd_T100 ((rd_T94 l0 x4_1).f1) x50_4).f0))).setCell ⟨gb111, 1, none⟩ (.int .i64 ((rd_T100 ((rd_T94 l0 x4_1).f1) x50_4).f1))) = w52 at n0_ n1_ n2_ n3_ ⊢
                        have HO_3 := n0_; have BK107 := n1_; have BK111 := n2_; have HB := n3_; clear n0_ n1_ n2_ n3_; replace HO_3 := am (Kd.R_drew HO_3.out); replace BK107 := am (blk_drew BK107.out); replace BK111 := am (blk_drew BK111.out); replace HB := am (below_drew1 HB.out)
                        refine st (n := 31) (S := fun w' => w'.cell? ⟨gb111, 0, none⟩ = some (.int .i64 ((rd_T100 ((rd_T94 l0 x4_1).f1) x50_4).f0)) ∧ w'.cell? ⟨gb111, 1, none⟩ = some (.int .i64 ((rd_T100 ((rd_T94 l0 x4_1).f1) x50_4).f1))) (ds := []) ⟨(blk_cell BK111.out 0).trans rfl, (blk_cell BK111.out 1).trans rfl⟩ (fun hHeld => ?_); refine with_tabW impl_MachineOk.tab16 impl_MachineOk.bits16 (fun HT_ HW_ => ?_)
                        generalize w52.drew = w53 at HO_3 BK107 BK111 HB hHeld ⊢
                        refine pu 0 55 ?_
                        refine tk2 1 56 hHeld ?_
                        refine on1 2 57 (fun K hK => ?_)
                        refine goes_ Try.func81 (by kernel_rfl) rfl #[.int .i64 ((rd_T100 ((rd_T94 l0 x4_1).f1) x50_4).f0), .int .i64 97, .int .i64 122] (by rfl) rfl rfl mq ?_
                        with_reducible refine (impl_within.calls ((rd_T100 ((rd_T94 l0 x4_1).f1) x50_4).f0) 97 122 true _ A39.out).mono ?_
                        rintro e w' ⟨rfl, ⟨nd, rfl⟩⟩
                        refine ⟨_, rfl, ?_⟩
                        refine hK.out _ _ ⟨(blk_cell BK111.out 0).trans rfl, (blk_cell BK111.out 1).trans rfl⟩ (fun hHeld => ?_)
                        clear hK K
                        refine norm_ (a' := ?_) ?_ ?_
                        rotate_left
                        ·show Act.put _ (some 57) _ = _
                         simp only [Act.put, List.setIfInBounds_toArray, List.set_cons_zero, List.set_cons_succ, i64_w, i32_w]
                         rfl
                        refine pu 3 58 ?_
                        refine pu 4 59 ?_
                        refine pu 5 60 ?_
                        refine pu 6 61 ?_
                        refine pu 7 62 ?_
                        refine puu 8 63 ?_
                        refine puu 9 64 ?_
                        refine puu 10 65 ?_
                        refine puu 11 66 ?_
                        refine puu 12 67 ?_
                        refine puu 13 68 ?_
                        refine puu 14 69 ?_
                        refine puu 15 70 ?_
                        refine puu 16 71 ?_
                        refine puu 17 72 ?_
                        refine pu 18 73 ?_
                        refine pu 19 74 ?_
                        refine pu 20 75 ?_
                        refine pu 21 76 ?_
                        refine pu 23 78 ?_
                        refine pu 24 79 ?_
                        refine pu 25 80 ?_
                        refine pu 26 81 ?_
                        refine pu 27 82 ?_
                        refine tk2 22 77 hHeld ?_
                        refine on1 28 83 (fun K hK => ?_)
                        refine goes_ Try.func81 (by kernel_rfl) rfl #[.int .i64 ((rd_T100 ((rd_T94 l0 x4_1).f1) x50_4).f1), .int .i64 (wrap64 (x4_1 + 1)), .int .i64 (wrap64 ((l0.length : Int) - 1))] (by rfl) rfl rfl mq ?_
                        with_reducible refine (impl_within.calls ((rd_T100 ((rd_T94 l0 x4_1).f1) x50_4).f1) (wrap64 (x4_1 + 1)) (wrap64 ((l0.length : Int) - 1)) t115 _ A51.out).mono ?_
                        rintro e w' ⟨rfl, ⟨nd, rfl⟩⟩
                        refine ⟨_, rfl, ?_⟩
                        refine hK.out _ _ ⟨(blk_cell BK111.out 0).trans rfl, (blk_cell BK111.out 1).trans rfl⟩ (fun hHeld => ?_)
                        clear hK K
                        refine norm_ (a' := ?_) ?_ ?_
                        rotate_left
                        ·show Act.put _ (some 83) _ = _
                         simp only [Act.put, List.setIfInBounds_toArray, List.set_cons_zero, List.set_cons_succ, i64_w, i32_w]
                         rfl
                        refine pu 29 84 ?_
                        refine pu 30 85 ?_
                        refine done_ (done_of HT_.out (by kernel_rfl)) ?_
                        try go_wp2
                        go_meet
                        case rel => exact ⟨_, (!t115), sq, H', ⟨b54_⟩, ⟨b25_⟩, ⟨b28_⟩, ⟨b41_⟩, ⟨bel2 GE107.out GE111.out⟩⟩
                      ·replace c40 := Bool.eq_false_iff.mpr c40; subst c40
                       have H1 : (impl_MachineOk.j4 k4 l0 x3_4 x4_1 ((rd_T94 l0 x4_1).f1) (((rd_T94 l0 x4_1).f1).length : Int) x50_4 true ((rd_T94 l0 x4_1).f0) ((rd_T94 l0 x4_1).f1) ((rd_T100 ((rd_T94 l0 x4_1).f1) x50_4).f0) ((rd_T100 ((rd_T94 l0 x4_1).f1) x50_4).f1)) = some r := b6_
                       replace H := H1; clear H1
                       have H' := am H
                       clear H
                       try go_wp2
                       have n0_ : Aside0 (Kd.R (Kd.int .i64) 3 ((w36.setCell ⟨gb111, 0, none⟩ (.int .i64 ((rd_T100 ((rd_T94 l0 x4_1).f1) x50_4).f0))).setCell ⟨gb111, 1, none⟩ (.int .i64 ((rd_T100 ((rd_T94 l0 x4_1).f1) x50_4).f1))) w.heap.size (fun _ => True) (.slice (some ⟨go22, 0, none⟩) x3_4.length co22) x3_4) := ⟨rq (Kd.R_mono (Kd.R_far (p := ⟨gb111, 1, none⟩) (Kd.R_far (p := ⟨gb111, 0, none⟩) (Kd.R_types HO_3.out BK111.out (by decide)) (fun _ hk => hk.2) (.int .i64 ((rd_T100 ((rd_T94 l0 x4_1).f1) x50_4).f0))) (fun _ hk => hk.2) (.int .i64 ((rd_T100 ((rd_T94 l0 x4_1).f1) x50_4).f1))) (fun _ hk => trivial))⟩
                       have n1_ : Aside0 (((w36.setCell ⟨gb111, 0, none⟩ (.int .i64 ((rd_T100 ((rd_T94 l0 x4_1).f1) x50_4).f0))).setCell ⟨gb111, 1, none⟩ (.int .i64 ((rd_T100 ((rd_T94 l0 x4_1).f1) x50_4).f1))).heap[gb107]? = some (.cells #[.bool ((rd_T94 l0 x4_1).f0), .slice (some ad110) ((rd_T94 l0 x4_1).f1).length c106_1] 94 (0, 0))) := ⟨b15_⟩
                       have n2_ : Aside0 (((w36.setCell ⟨gb111, 0, none⟩ (.int .i64 ((rd_T100 ((rd_T94 l0 x4_1).f1) x50_4).f0))).setCell ⟨gb111, 1, none⟩ (.int .i64 ((rd_T100 ((rd_T94 l0 x4_1).f1) x50_4).f1))).heap[gb111]? = some (.cells #[.int .i64 ((rd_T100 ((rd_T94 l0 x4_1).f1) x50_4).f0), .int .i64 ((rd_T100 ((rd_T94 l0 x4_1).f1) x50_4).f1)] 100 (0, 0))) := ⟨b11_⟩
                       have n3_ : Aside0 (Below w.heap.size w ((w36.setCell ⟨gb111, 0, none⟩ (.int .i64 ((rd_T100 ((rd_T94 l0 x4_1).f1) x50_4).f0))).setCell ⟨gb111, 1, none⟩ (.int .i64 ((rd_T100 ((rd_T94 l0 x4_1).f1) x50_4).f1)))) := ⟨bel2 GE107.out GE111.out⟩
                       (try clear HO_3)
                       (try clear BK107)
                       (try clear BK111)
                       (try clear HB)
                       generalize ((w36.setCell ⟨gb111, 0, none⟩ (.int .i64 ((rd_T100 ((rd_T94 l0 x4_1).f1) x50_4).f0))).setCell ⟨gb111, 1, none⟩ (.int .i64 ((rd_T100 ((rd_T94 l0 x4_1).f1) x50_4).f1))) = w54 at n0_ n1_ n2_ n3_ ⊢
                       have HO_3 := n0_; have BK107 := n1_; have BK111 := n2_; have HB := n3_; clear n0_ n1_ n2_ n3_; replace HO_3 := am (Kd.R_drew HO_3.out); replace BK107 := am (blk_drew BK107.out); replace BK111 := am (blk_drew BK111.out); replace HB := am (below_drew1 HB.out)
                       refine st (n := 31) (S := fun w' => w'.cell? ⟨gb111, 0, none⟩ = some (.int .i64 ((rd_T100 ((rd_T94 l0 x4_1).f1) x50_4).f0)) ∧ w'.cell? ⟨gb111, 1, none⟩ = some (.int .i64 ((rd_T100 ((rd_T94 l0 x4_1).f1) x50_4).f1))) (ds := []) ⟨(blk_cell BK111.out 0).trans rfl, (blk_cell BK111.out 1).trans rfl⟩ (fun hHeld => ?_); refine with_tabW impl_MachineOk.tab16 impl_MachineOk.bits16 (fun HT_ HW_ => ?_)
                       generalize w54.drew = w55 at HO_3 BK107 BK111 HB hHeld ⊢
                       refine pu 0 55 ?_
                       refine tk2 1 56 hHeld ?_
                       refine on1 2 57 (fun K hK => ?_)
                       refine goes_ Try.func81 (by kernel_rfl) rfl #[.int .i64 ((rd_T100 ((rd_T94 l0 x4_1).f1) x50_4).f0), .int .i64 97, .int .i64 122] (by rfl) rfl rfl mq ?_
                       with_reducible refine (impl_within.calls ((rd_T100 ((rd_T94 l0 x4_1).f1) x50_4).f0) 97 122 false _ A39.out).mono ?_
                       rintro e w' ⟨rfl, ⟨nd, rfl⟩⟩
                       refine ⟨_, rfl, ?_⟩
                       refine hK.out _ _ ⟨(blk_cell BK111.out 0).trans rfl, (blk_cell BK111.out 1).trans rfl⟩ (fun hHeld => ?_)
                       clear hK K
                       refine norm_ (a' := ?_) ?_ ?_
                       rotate_left
                       ·show Act.put _ (some 57) _ = _
                        simp only [Act.put, List.setIfInBounds_toArray, List.set_cons_zero, List.set_cons_succ, i64_w, i32_w]
                        rfl
                       refine pu 3 58 ?_
                       refine pu 4 59 ?_
                       refine puu 5 60 ?_
                       refine puu 6 61 ?_
                       refine puu 7 62 ?_
                       refine puu 8 63 ?_
                       refine puu 9 64 ?_
                       refine puu 10 65 ?_
                       refine puu 11 66 ?_
                       refine puu 12 67 ?_
                       refine puu 13 68 ?_
                       refine puu 14 69 ?_
                       refine puu 15 70 ?_
                       refine puu 16 71 ?_
                       refine puu 17 72 ?_
                       refine puu 18 73 ?_
                       refine pu 19 74 ?_
                       refine pu 20 75 ?_
                       refine puu 21 76 ?_
                       refine puu 22 77 ?_
                       refine puu 23 78 ?_
                       refine puu 24 79 ?_
                       refine puu 25 80 ?_
                       refine puu 26 81 ?_
                       refine puu 27 82 ?_
                       refine puu 28 83 ?_
                       refine puu 29 84 ?_
                       refine pu 30 85 ?_
                       refine done_ (done_of HT_.out (by kernel_rfl)) ?_
                       try go_wp2
                       go_meet
                       case rel => exact ⟨_, (true), sq, H', ⟨b54_⟩, ⟨b25_⟩, ⟨b28_⟩, ⟨b41_⟩, ⟨bel2 GE107.out GE111.out⟩⟩
                     case rest =>
                      clear HC35; (try clear c1); (try clear p2); (try clear c4); (try clear p6); (try clear c8); (try clear c10); (try clear c40); (try clear c41); (try clear c41b0); (try clear c43); (try clear c44); obtain ⟨kq, x85_34, rfl, HA, HJ34, HO_3, BK107, BK111, HB⟩ := hcut
                      cases kq with
                      | zero => exact absurd HA.out (by simp [impl_MachineOk.j4])
                      | succ kj34 =>
                       have H := HA.out; clear HA
                       simp only [impl_MachineOk.j4] at H
                       by_cases c56 : x85_34 = true
                       ·subst c56
                        have H1 : (some false) = some r := b20_
                        replace H := H1; clear H1
                        obtain rfl := Option.some.inj H; go_wp2; go_ret
                        exact ⟨eq_, bel2 GE107.out GE111.out⟩
                       ·replace c56 := Bool.eq_false_iff.mpr c56; subst c56
                        have H1 : (if 0 ≤ ((rd_T100 ((rd_T94 l0 x4_1).f1) x50_4).f1) then (if ((rd_T100 ((rd_T94 l0 x4_1).f1) x50_4).f1) < (x3_4.length : Int) then (if (rd x3_4 ((rd_T100 ((rd_T94 l0 x4_1).f1) x50_4).f1)) ≥ 0 then (if 0 ≤ x4_1 then (if x4_1 < (x3_4.length : Int) then (impl_MachineOk.l1 kj34 l0 (x3_4.set (x4_1 : Int).toNat (mx (rd x3_4 x4_1) (wrap64 ((rd x3_4 ((rd_T100 ((rd_T94 l0 x4_1).f1) x50_4).f1)) + 1)))) x4_1 ((rd_T94 l0 x4_1).f1) (((rd_T94 l0 x4_1).f1).length : Int) (wrap64 (x50_4 + 1)) ((rd_T94 l0 x4_1).f0) ((rd_T94 l0 x4_1).f1)) else (none)) else (none)) else (impl_MachineOk.l1 kj34 l0 x3_4 x4_1 ((rd_T94 l0 x4_1).f1) (((rd_T94 l0 x4_1).f1).length : Int) (wrap64 (x50_4 + 1)) ((rd_T94 l0 x4_1).f0) ((rd_T94 l0 x4_1).f1))) else (none)) else (none)) = some r := b6_
                        replace H := H1; clear H1
                        by_cases c57 : 0 ≤ ((rd_T100 ((rd_T94 l0 x4_1).f1) x50_4).f1)
                        ·rw [if_pos c57] at H; have c57b0 := decide_eq_true c57; clear c57
                         by_cases c58 : ((rd_T100 ((rd_T94 l0 x4_1).f1) x50_4).f1) < (x3_4.length : Int)
                         ·rw [if_pos c58] at H; have c58b0 := decide_eq_true c58; clear c58
                          by_cases c59 : (rd x3_4 ((rd_T100 ((rd_T94 l0 x4_1).f1) x50_4).f1)) ≥ 0
                          ·rw [if_pos c59] at H; have c59b0 := decide_eq_true c59; clear c59
                           by_cases c60 : 0 ≤ x4_1
                           ·rw [if_pos c60] at H; have c60b0 := decide_eq_true c60; clear c60
                            by_cases c61 : x4_1 < (x3_4.length : Int)
                            ·rw [if_pos c61] at H; have c61b0 := decide_eq_true c61; clear c61; obtain ⟨ji62, hji62⟩ : ∃ j_ : Int, (mx (rd x3_4 x4_1) (wrap64 ((rd x3_4 ((rd_T100 ((rd_T94 l0 x4_1).f1) x50_4).f1)) + 1))) = j_ := ⟨_, rfl⟩
                             replace H : (impl_MachineOk.l1 kj34 l0 (x3_4.set (x4_1 : Int).toNat (ji62)) x4_1 ((rd_T94 l0 x4_1).f1) (((rd_T94 l0 x4_1).f1).length : Int) (wrap64 (x50_4 + 1)) ((rd_T94 l0 x4_1).f0) ((rd_T94 l0 x4_1).f1)) = some r := by first | (rw [hji62] at H; exact H) | (simp only [hji62] at H ⊢; exact H)
                             have hji62_ : (if (rd x3_4 x4_1) < (wrap64 ((rd x3_4 ((rd_T100 ((rd_T94 l0 x4_1).f1) x50_4).f1)) + 1)) then (wrap64 ((rd x3_4 ((rd_T100 ((rd_T94 l0 x4_1).f1) x50_4).f1)) + 1)) else (rd x3_4 x4_1)) = ji62 := hji62
                             obtain ⟨y119, hy119⟩ : ∃ y_ : List Int, y_ = (x3_4.set (x4_1 : Int).toNat (ji62)) := ⟨_, rfl⟩
                             replace H : (impl_MachineOk.l1 kj34 l0 y119 x4_1 ((rd_T94 l0 x4_1).f1) (((rd_T94 l0 x4_1).f1).length : Int) (wrap64 (x50_4 + 1)) ((rd_T94 l0 x4_1).f0) ((rd_T94 l0 x4_1).f1)) = some r := by first | (rw [hy119]; with_reducible exact H) | (have H2_ := (Option.bind_some _ _).symm.trans H; rw [hy119]; with_reducible exact H2_) | (have H2_ := (Option.bind_some _ _).symm.trans H; with_reducible exact H2_) | with_reducible exact H | (rw [hy119]; exact H) | exact H
                             have Ny119 := am hy119; clear hy119
                             have H' := am H
                             clear H; have hnb64 := NB111_107.out; have hnc64 := NB107_111.out
                             have hcz65_0 : wc.cell? ⟨gb111, 0, none⟩ = some (.int .i64 ((rd_T100 ((rd_T94 l0 x4_1).f1) x50_4).f0)) := (blk_cell BK111.out 0).trans rfl
                             have hcz65_1 : wc.cell? ⟨gb111, 1, none⟩ = some (.int .i64 ((rd_T100 ((rd_T94 l0 x4_1).f1) x50_4).f1)) := (blk_cell BK111.out 1).trans rfl
                             have hfz65_0 := bf BK111.out 0; have hfz65_1 := bf BK111.out 1
                             have p116 : 0 ≤ (((rd_T100 ((rd_T94 l0 x4_1).f1) x50_4).f1) : Int) := of_decide_eq_true ad
                             have q116 : ((rd_T100 ((rd_T94 l0 x4_1).f1) x50_4).f1) < (x3_4.length : Int) := of_decide_eq_true ad
                             obtain ⟨ad116, e116, hx116_0⟩ := Kd.at_int (Kd.R_reads' HO_3.out).2.2 ((rd_T100 ((rd_T94 l0 x4_1).f1) x50_4).f1) p116 q116
                             obtain rfl : (⟨go22, 0, none⟩ : Addr) = ad116 := (by injection e116)
                             (first | simp only [add_plain] at hx116_0 | simp only [add_at] at hx116_0 | simp only [Addr.add, Nat.zero_add] at hx116_0 | skip)
                             replace p116 := eq_true p116; replace q116 := eq_true q116
                             try go_wp2
                             replace HO_3 := am (Kd.R_drew HO_3.out); replace BK107 := am (blk_drew BK107.out); replace BK111 := am (blk_drew BK111.out); replace HB := am (below_drew1 HB.out)
                             have p117 : 0 ≤ (x4_1 : Int) := of_decide_eq_true ad
                             have q117 : x4_1 < (x3_4.length : Int) := of_decide_eq_true ad
                             obtain ⟨ad117, e117, hx117_0⟩ := Kd.at_int (Kd.R_reads' HO_3.out).2.2 x4_1 p117 q117
                             obtain rfl : (⟨go22, 0, none⟩ : Addr) = ad117 := (by injection e117)
                             (first | simp only [add_plain] at hx117_0 | simp only [add_at] at hx117_0 | simp only [Addr.add, Nat.zero_add] at hx117_0 | skip)
                             replace p117 := eq_true p117; replace q117 := eq_true q117
                             have p118 : 0 ≤ (((rd_T100 ((rd_T94 l0 x4_1).f1) x50_4).f1) : Int) := of_decide_eq_true ad
                             have q118 : ((rd_T100 ((rd_T94 l0 x4_1).f1) x50_4).f1) < (x3_4.length : Int) := of_decide_eq_true ad
                             obtain ⟨ad118, e118, hx118_0⟩ := Kd.at_int (Kd.R_reads' HO_3.out).2.2 ((rd_T100 ((rd_T94 l0 x4_1).f1) x50_4).f1) p118 q118
                             obtain rfl : (⟨go22, 0, none⟩ : Addr) = ad118 := (by injection e118)
                             (first | simp only [add_plain] at hx118_0 | simp only [add_at] at hx118_0 | simp only [Addr.add, Nat.zero_add] at hx118_0 | skip)
                             replace p118 := eq_true p118; replace q118 := eq_true q118
                             have p63 : 0 ≤ (x4_1 : Int) := of_decide_eq_true ad
                             have q63 : (x4_1 : Int) < ((x3_4.length : Int) : Int) := of_decide_eq_true ad
                             obtain ⟨hx63_0, hf63_0⟩ := Kd.R_celln 0 HO_3.out (x4_1 : Int) p63 q63; replace p63 := eq_true p63; replace q63 := eq_true q63; have HP67 := Kd.R_putn HO_3.out (x4_1 : Int) ji62; rw [← Ny119.out] at HP67; have HQ67 := am HP67; clear HP67
                             refine start_ (n := 15) (S := fun w' => w'.cell? ⟨gb111, 0, none⟩ = some (.int .i64 ((rd_T100 ((rd_T94 l0 x4_1).f1) x50_4).f0)) ∧ w'.cell? ⟨gb111, 1, none⟩ = some (.int .i64 ((rd_T100 ((rd_T94 l0 x4_1).f1) x50_4).f1)) ∧ w'.cell? ⟨go22, (x4_1).toNat, none⟩ = some (.int .i64 (rd x3_4 x4_1)) ∧ w'.cell? ⟨go22, (((rd_T100 ((rd_T94 l0 x4_1).f1) x50_4).f1)).toNat, none⟩ = some (.int .i64 (rd x3_4 ((rd_T100 ((rd_T94 l0 x4_1).f1) x50_4).f1)))) (ds := [14]) #[false, false, false, false, false, false, false, false, false, false, false, false, false, false, false] (by kernel_rfl) rfl rfl ⟨(blk_cell BK111.out 0).trans rfl, (blk_cell BK111.out 1).trans rfl, hx117_0, hx118_0⟩ (fun hHeld => ?_); refine with_tabW impl_MachineOk.tab19 impl_MachineOk.bits19 (fun HT_ HW_ => ?_)
                             generalize wc.drew = w66 at HO_3 BK107 BK111 HB HQ67 hf63_0 hx117_0 hx118_0 hx63_0 hHeld ⊢
                             refine pu 0 92 ?_
                             refine pu 1 93 ?_
                             refine pu 2 94 ?_
                             refine pu 3 95 ?_
                             refine pu 4 96 ?_
                             refine pu 6 98 ?_
                             refine pu 7 99 ?_
                             refine tk4 5 97 hHeld ?_
                             refine tk4 8 100 hHeld ?_
                             refine pu 9 101 ?_
                             refine tk4 10 102 hHeld ?_
                             refine pu 11 103 ?_
                             refine pu 12 104 ?_
                             refine pu 13 105 ?_
                             refine last_ (i := 14) (N := none) #[true, true, true, true, true, true, true, true, true, true, true, true, true, true, true] rfl rfl (one_of HT_.out (by kernel_rfl)) (by decide) (fun K hK => ?_)
                             refine skip_ (w1 := ?_) (by rfl) rfl ?_ ?_
                             rotate_left
                             ·go_simp
                              rfl
                             refine hK.out _ _ ?_
                             clear hK K
                             refine done_ (done_of HT_.out (by kernel_rfl)) ?_
                             try go_wp2
                             (try simp only [← hl3_4])
                             go_roundg kj34
                             case measure => have := HK1.out; have := HJ10.out; have := HJ22.out; have := HK4.out; have := HJ34.out; omega
                             case rel => exact ⟨(y119), (wrap64 (x50_4 + 1)), sq, H', ⟨by have := HK1.out; have := HJ10.out; have := HJ22.out; have := HK4.out; have := HJ34.out; omega⟩, ⟨by (try simp only [hl3_22]); (try simp only [hl3_4]); (with_reducible repeat (first | apply Kd.R_alloc | apply Kd.R_drewN | apply Kd.R_drew)); exact HQ67.out⟩, ⟨by (try simp only [hl3_22]); (try simp only [hl3_4]); (with_reducible repeat (first | refine blk_drewN ?_ _ | refine blk_drew ?_ | refine blk_alloc ?_ _)); refine blk_far ?_ (by have h_ := Kd.R_ne HO_3.out BK107.out (by decide); intro e_; exact h_ (by rw [e_]; rfl)) _; (with_reducible repeat (first | refine blk_drewN ?_ _ | refine blk_drew ?_ | refine blk_alloc ?_ _)); exact BK107.out⟩, ⟨bel3 GB22.out GE107.out GE111.out⟩⟩
                            ·rw [if_neg c61] at H
                             exact absurd H (by simp)
                           ·rw [if_neg c60] at H
                            exact absurd H (by simp)
                          ·rw [if_neg c59] at H; have c59b0 := decide_eq_false c59; clear c59
                           have H' := am H
                           clear H; have hnb68 := NB111_107.out; have hnc68 := NB107_111.out
                           have hcz69_0 : wc.cell? ⟨gb111, 0, none⟩ = some (.int .i64 ((rd_T100 ((rd_T94 l0 x4_1).f1) x50_4).f0)) := (blk_cell BK111.out 0).trans rfl
                           have hcz69_1 : wc.cell? ⟨gb111, 1, none⟩ = some (.int .i64 ((rd_T100 ((rd_T94 l0 x4_1).f1) x50_4).f1)) := (blk_cell BK111.out 1).trans rfl
                           have hfz69_0 := bf BK111.out 0; have hfz69_1 := bf BK111.out 1
                           have p116 : 0 ≤ (((rd_T100 ((rd_T94 l0 x4_1).f1) x50_4).f1) : Int) := of_decide_eq_true ad
                           have q116 : ((rd_T100 ((rd_T94 l0 x4_1).f1) x50_4).f1) < (x3_4.length : Int) := of_decide_eq_true ad
                           obtain ⟨ad116, e116, hx116_0⟩ := Kd.at_int (Kd.R_reads' HO_3.out).2.2 ((rd_T100 ((rd_T94 l0 x4_1).f1) x50_4).f1) p116 q116
                           obtain rfl : (⟨go22, 0, none⟩ : Addr) = ad116 := (by injection e116)
                           (first | simp only [add_plain] at hx116_0 | simp only [add_at] at hx116_0 | simp only [Addr.add, Nat.zero_add] at hx116_0 | skip)
                           replace p116 := eq_true p116; replace q116 := eq_true q116; go_wp2
                           (try simp only [← hl3_4])
                           go_roundg kj34
                           case measure => have := HK1.out; have := HJ10.out; have := HJ22.out; have := HK4.out; have := HJ34.out; omega
                           case rel => exact ⟨(x3_4), (wrap64 (x50_4 + 1)), sq, H', ⟨by have := HK1.out; have := HJ10.out; have := HJ22.out; have := HK4.out; have := HJ34.out; omega⟩, ⟨b25_⟩, ⟨b28_⟩, ⟨bel2 GE107.out GE111.out⟩⟩
                         ·rw [if_neg c58] at H
                          exact absurd H (by simp)
                        ·rw [if_neg c57] at H
                         exact absurd H (by simp)
                    ·rw [if_neg c34] at H
                     exact absurd H (by simp)
                   ·rw [if_neg c33] at H
                    exact absurd H (by simp)
                  ·rw [if_neg c32] at H; have c32b0 := decide_eq_false c32; clear c32
                   have H' := am H
                   clear H; go_wp2
                   (try simp only [← hl3_22, ← hl3_4])
                   go_roundg k4
                   case measure => have := HK1.out; have := HJ10.out; have := HJ22.out; have := HK4.out; omega
                   case rel => exact ⟨(x3_4), (wrap64 (x4_1 - 1)), sq, H', ⟨by have := HK1.out; have := HJ10.out; have := HJ22.out; have := HK4.out; omega⟩, ⟨b25_⟩, ⟨bel1 GE107.out⟩⟩
             ·rw [if_neg c21] at H
              exact absurd H (by simp)
            ·rw [if_neg c20] at H
             exact absurd H (by simp)
        ·rw [if_neg c10] at H
         exact absurd H (by simp)
       ·rw [if_neg c9] at H
        exact absurd H (by simp)
      ·rw [if_neg c8] at H; have c8b0 := decide_eq_false c8; clear c8
       by_cases c70 : 0 < (x3_1.length : Int)
       ·rw [if_pos c70] at H; have c70b0 := decide_eq_true c70
        have c70b1 : decide (0 < x3_1.length) = true := decide_eq_true (by omega)
        clear c70; obtain rfl := Option.some.inj H; obtain ⟨Ao71, co71, eo71⟩ := Kd.R_slice HO_3.out; subst eo71
        have p105 : 0 ≤ (0 : Int) := (by omega)
        have q105 : 0 < (x3_1.length : Int) := of_decide_eq_true ad
        obtain ⟨ad105, e105, hx105_0⟩ := Kd.at_int (Kd.R_reads' HO_3.out).2.2 0 p105 q105
        cases e105
        have qi105 : (0 < x3_1.length) = True := eq_true (by omega)
        (try rw [show ((0 : Int)).toNat = 0 from rfl] at hx105_0)
        (try rw [Addr.add_zero'] at hx105_0)
        replace p105 := eq_true p105; replace q105 := eq_true q105; go_wp2; go_ret
        exact ⟨eq_, bel⟩
       ·rw [if_neg c70] at H
        exact absurd H (by simp)
   ·rw [if_neg c5] at H
    exact absurd H (by simp)
  ·rw [if_neg c4] at H
   exact absurd H (by simp)
 ·replace c3 := Bool.eq_false_iff.mpr c3; subst c3
  have H1 : (some false) = some r := b6_
  replace H := H1; clear H1
  obtain rfl := Option.some.inj H; go_enter Try.func44, Try.ntmps44
  go_wp2_with (first | ((with_reducible refine gate_callee (f := 81) rfl ?_); refine goesL_ (some 10) rfl rfl Try.func81 (by kernel_rfl) rfl #[.int .i64 (l0.length : Int), .int .i64 1, .int .i64 400] rfl mq ?_; (with_reducible refine (impl_within.calls (l0.length : Int) 1 400 false _ A2.out).mono ?_); rintro e w' ⟨rfl, ⟨nd, rfl⟩⟩; refine ⟨_, rfl, ?_⟩))
  go_ret
  exact ⟨eq_, bel⟩

end Go.Proofs.Ytfpmfaelodfecaa.QFnMachineWord
