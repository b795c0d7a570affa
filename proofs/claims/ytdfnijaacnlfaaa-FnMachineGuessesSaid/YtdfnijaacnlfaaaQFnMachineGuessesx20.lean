import Derived.Test.YtdfnijaacnlfaaaQFnMachineGuessesx0
import Derived.Test.YtdfnijaacnlfaaaQFnMachineGuessesx16
import Derived.Test.YtdfnijaacnlfaaaVMSh2
namespace Go.Proofs.Ytdfnijaacnlfaaa.QFnMachineGuesses
open Go.RowKit Go.Proofs.YtdfnijaacnlfaaaW.PrintWords Go.Proofs.YtdfnijaacnlfaaaW.PrintLast Go.Proofs.YtdfnijaacnlfaaaW.PrintMore Go.Proofs.Ytdfnijaacnlfaaa.Sh
attribute [local go_sem] max2_int min2_int max_two min_two max_three min_three max_four min_four
set_option linter.unusedVariables false
set_option linter.unusedSimpArgs false
set_option maxHeartbeats 8000000
set_option maxRecDepth 100000
-- shrunk

/-! ### impl_MachineOk: function 69 -/
mutual
def impl_MachineOk.l0 : Nat → List (S95) → List Int → Int → Option (Bool)
 | 0, _, _, _ => none
 | k + 1, x0, x3, x4 => if x4 ≥ 0 then (if 0 ≤ x4 then (if x4 < (x0.length : Int) then (if x4 > 0 then (if ((rd_T95 x0 x4).f0 = true) then (impl_MachineOk.j1 k x0 x3 x4 false ((rd_T95 x0 x4).f0) ((rd_T95 x0 x4).f1)) else (impl_MachineOk.j1 k x0 x3 x4 ((((rd_T95 x0 x4).f1).length : Int) == 0) ((rd_T95 x0 x4).f0) ((rd_T95 x0 x4).f1))) else (impl_MachineOk.j1 k x0 x3 x4 false ((rd_T95 x0 x4).f0) ((rd_T95 x0 x4).f1))) else (none)) else (none)) else (if 0 < (x3.length : Int) then (some (decide ((rd x3 0) ≤ 12))) else (none))
def impl_MachineOk.j1 : Nat → List (S95) → List Int → Int → Bool → Bool → List (S97) → Option (Bool)
 | 0, _, _, _, _, _, _ => none
 | k + 1, x0, x3, x4, x38, x586000, x586001 => if x38 = true then (some false) else (if 0 ≤ x4 then (if x4 < (x3.length : Int) then ((some (x3.set (x4 : Int).toNat (-1) : List Int)).bind fun y586 => (if x586000 = true then (impl_MachineOk.j2 k x0 (y586.set (x4 : Int).toNat 0) x4 x586000 x586001) else (impl_MachineOk.j2 k x0 y586 x4 x586000 x586001))) else (none)) else (none))
def impl_MachineOk.j2 : Nat → List (S95) → List Int → Int → Bool → List (S97) → Option (Bool)
 | 0, _, _, _, _, _ => none
 | k + 1, x0, x3, x4, x586000, x586001 => impl_MachineOk.l1 k x0 x3 x4 x586001 (x586001.length : Int) 0 x586000 x586001
def impl_MachineOk.l1 : Nat → List (S95) → List Int → Int → List (S97) → Int → Int → Bool → List (S97) → Option (Bool)
 | 0, _, _, _, _, _, _, _, _ => none
 | k + 1, x0, x3, x4, x48, x49, x50, x586000, x586001 => if x50 < x49 then (if 0 ≤ x50 then (if x50 < (x48.length : Int) then ((impl_within.f ((rd_T97 x48 x50).f0) 97 122).bind fun t590 => (if t590 = true then (if x50 > 0 then (if 0 ≤ (wrap64 (x50 - 1)) then (if (wrap64 (x50 - 1)) < (x586001.length : Int) then (if ((rd_T97 x586001 (wrap64 (x50 - 1))).f0) ≥ ((rd_T97 x48 x50).f0) then (impl_MachineOk.j4 k x0 x3 x4 x48 x49 x50 true x586000 x586001 ((rd_T97 x48 x50).f0) ((rd_T97 x48 x50).f1)) else ((impl_within.f ((rd_T97 x48 x50).f1) (wrap64 (x4 + 1)) (wrap64 ((x0.length : Int) - 1))).bind fun t592 => (impl_MachineOk.j4 k x0 x3 x4 x48 x49 x50 (!t592) x586000 x586001 ((rd_T97 x48 x50).f0) ((rd_T97 x48 x50).f1)))) else (none)) else (none)) else ((impl_within.f ((rd_T97 x48 x50).f1) (wrap64 (x4 + 1)) (wrap64 ((x0.length : Int) - 1))).bind fun t593 => (impl_MachineOk.j4 k x0 x3 x4 x48 x49 x50 (!t593) x586000 x586001 ((rd_T97 x48 x50).f0) ((rd_T97 x48 x50).f1)))) else (impl_MachineOk.j4 k x0 x3 x4 x48 x49 x50 true x586000 x586001 ((rd_T97 x48 x50).f0) ((rd_T97 x48 x50).f1)))) else (none)) else (none)) else (impl_MachineOk.l0 k x0 x3 (wrap64 (x4 - 1)))
def impl_MachineOk.j4 : Nat → List (S95) → List Int → Int → List (S97) → Int → Int → Bool → Bool → List (S97) → Int → Int → Option (Bool)
 | 0, _, _, _, _, _, _, _, _, _, _, _ => none
 | k + 1, x0, x3, x4, x48, x49, x50, x85, x586000, x586001, x590000, x590001 => if x85 = true then (some false) else (if 0 ≤ x590001 then (if x590001 < (x3.length : Int) then (if (rd x3 x590001) ≥ 0 then (if 0 ≤ x4 then (if x4 < (x3.length : Int) then (impl_MachineOk.l1 k x0 (x3.set (x4 : Int).toNat (mx (rd x3 x4) (wrap64 ((rd x3 x590001) + 1)))) x4 x48 x49 (wrap64 (x50 + 1)) x586000 x586001) else (none)) else (none)) else (impl_MachineOk.l1 k x0 x3 x4 x48 x49 (wrap64 (x50 + 1)) x586000 x586001)) else (none)) else (none))
end
def impl_MachineOk.f (k : Nat) (l0 : List (S95)) : Option (Bool) := (impl_within.f (l0.length : Int) 1 400).bind fun t579 => (if t579 = true then (if 0 ≤ (l0.length : Int) then (if l0.length ≤ 35184372088832 then (impl_MachineOk.l0 k l0 (List.replicate l0.length 0) (wrap64 ((l0.length : Int) - 1))) else (none)) else (none)) else (some false))
def impl_MachineOk.T16 : Bool × List (List Nat × List Nat) := (true, [([], []), ([0], [0]), ([1], [1]), ([2], [2]), ([3, 2], [3]), ([4], [4]), ([5, 4], [4, 5]), ([6, 4, 4], [4, 6]), ([7], [7]), ([8, 7], [7, 8]), ([7], [7]), ([10, 7], [7, 10]), ([9, 11, 7], [7, 9, 11]), ([12, 7], [7, 12]), ([13, 7], [7, 13]), ([7], [7]), ([15, 7], [7, 15]), ([14, 16, 7], [7, 14, 16]), ([7, 17, 4], [4, 7, 17]), ([4, 18], [4, 18]), ([19, 7], [19]), ([20], [20]), ([21, 20], [20, 21]), ([20], [20]), ([23, 20], [20, 23]), ([20], [20]), ([25, 20], [20, 25]), ([26, 20], [20, 26]), ([22, 24, 27, 20, 20], [20, 22, 24, 27]), ([28, 20], [20, 28]), ([20, 29], [20, 29])])
def impl_MachineOk.B16 : List Nat := [0, 1, 3, 7, 15, 31, 63, 127, 255, 511, 255, 1279, 4095, 8191, 16383, 255, 33023, 131071, 262143, 524287, 1048575, 2097151, 4194303, 2097151, 10485759, 2097151, 35651583, 102760447, 268435455, 536870911, 1073741823]
theorem impl_MachineOk.tab16 : rtab .any (opsOf Try.f69 16) = impl_MachineOk.T16 := by kernel_rfl
theorem impl_MachineOk.bits16 : waitsOk impl_MachineOk.T16.2 impl_MachineOk.B16 = true := by kernel_rfl
def impl_MachineOk.T19 : Bool × List (List Nat × List Nat) := (true, [([], []), ([], []), ([], []), ([], []), ([2, 3], [2, 3]), ([4], [4]), ([], []), ([], []), ([7], [7]), ([6, 8], [6, 8]), ([9], [9]), ([10], [10]), ([5, 11], [5, 11]), ([0, 1, 0, 1, 2, 3, 4, 5, 6, 7, 8, 9, 10, 11, 12], [0, 1]), ([13, 12, 0, 1, 2, 3, 4, 5, 6, 7, 8, 9, 10, 11, 12], [12, 13])])
def impl_MachineOk.B19 : List Nat := [0, 0, 0, 0, 12, 28, 0, 0, 128, 448, 960, 1984, 4092, 8191, 16383]
theorem impl_MachineOk.tab19 : rtab .any (opsOf Try.f69 19) = impl_MachineOk.T19 := by kernel_rfl
theorem impl_MachineOk.bits19 : waitsOk impl_MachineOk.T19.2 impl_MachineOk.B19 = true := by kernel_rfl
theorem impl_MachineOk.calls (k : Nat) (A0 : Option Addr) (c0 : Nat) (l0 : List (S95)) (r : Bool) (w : World) (hr0 : Kd.C k95 w A0 l0.length l0) (hc0 : l0.length ≤ c0) (h : impl_MachineOk.f k l0 = some r) :
  Calls Try.prog 69 #[.slice A0 l0.length c0] w fun e w' => e = .returned (.bool r) ∧ Below w.heap.size w w' := by
 have hu95 := Try.underlying95; have hu97 := Try.underlying97; have HR0 := am hr0; have HC0 := am hc0; clear hr0 hc0; have HB := am (Below.refl w.heap.size w)
 have H := h; unfold impl_MachineOk.f at H
 clear h; replace H := bs H; obtain ⟨t579, A20, H⟩ := H; have A2 := Aside0.mk A20; clear A20
 by_cases c3 : t579 = true
 ·subst c3
  rw [if_pos rfl] at H; replace H := ip H; obtain ⟨c4, H⟩ := H; have c4b0 := eq_true c4
  have c4b1 : decide (0 ≤ (l0.length : Int)) = true := decide_eq_true c4
  clear c4; replace H := ip H; obtain ⟨c5, H⟩ := H; have c5b0 := eq_true c5
  have c5b1 : decide (l0.length ≤ 35184372088832) = true := decide_eq_true c5
  clear c5; obtain ⟨y580, hy580⟩ : ∃ y_ : List Int, y_ = (List.replicate l0.length 0) := ⟨_, rfl⟩
  rw [← hy580] at H
  have Ny580 := am hy580; clear hy580
  have H' := am H
  clear H; go_enter Try.func69, Try.ntmps69
  go_wp2_with (first | ((with_reducible refine gate_callee (f := 77) rfl ?_); refine gl 10 Try.func77 #[.int .i64 (l0.length : Int), .int .i64 1, .int .i64 400] ?_; (with_reducible refine (impl_within.calls (l0.length : Int) 1 400 true _ A2.out).mono ?_); rintro e w' ⟨rfl, ⟨nd, rfl⟩⟩; refine ⟨_, rfl, ?_⟩) | ((with_reducible refine gate_dst (N := 14) rfl ?_); ((refine gate_guard (by rfl) ?_; dsimp only)); refine Kd.R_make (Kd.int .i64) _ 3 rfl (N := 14) rfl 99 _ _ rfl (l0.length : Int) rfl rfl Try.underlying99 (.int .i64 0) 8 info3 rfl (by decide) (by omega) 0 (ok := fun _ => True) (okp := fun _ => True) rfl (fun _ hk => hk) trivial (of_decide_eq_true ad) (Nat.le_trans (Nat.mul_le_mul_right _ (of_decide_eq_true ad : (l0.length : Int).toNat ≤ 35184372088832)) (by omega)) (Below.refl _ _) (Nat.le_refl _) ?_; intro v581 w6 ho7 hb hg_ hnew_; clear hg_ hnew_; (simp only [Int.toNat_natCast] at ho7; rw [← Ny580.out] at ho7); have HO582 := am (Kd.R_lower ho7 (below_size bel)); replace HB := am (below_step bel hb); clear hb ho7))
  go_loopg [4] k (fun kq v4 w' => ∃ (x3_1 : List Int) (x4_1 : Int), v4 = .int .i64 x4_1 ∧ Aside0 (impl_MachineOk.l0 kq l0 x3_1 x4_1 = some r) ∧ Aside0 (kq ≤ k) ∧ Aside0 (Kd.R (Kd.int .i64) 3 w' w.heap.size (fun _ => True) v581 x3_1) ∧ Aside0 (Below w.heap.size w w'))
  case atStart => exact ⟨(y580), (wrap64 ((l0.length : Int) - 1)), sq, H', ⟨Nat.le_refl _⟩, ⟨rq HO582.out⟩, ⟨bel⟩⟩
  case round =>
   clear H'; clear c4b0 c4b1 c5b0 c5b1; obtain ⟨x3_1, x4_1, rfl, HA, HK1, HO_3, HB⟩ := hrel
   cases gk with
   | zero => exact absurd HA.out (by simp [impl_MachineOk.l0])
   | succ k1 =>
    have H := HA.out; clear HA; simp only [impl_MachineOk.l0] at H
    by_cases c8 : x4_1 ≥ 0
    ·rw [if_pos c8] at H; have c8b0 := decide_eq_true c8; clear c8
     replace H := it H; obtain ⟨c9b0, H⟩ := H; replace H := it H; obtain ⟨c10b0, H⟩ := H; have HC11 := am H; clear H
     have p584 : 0 ≤ (x4_1 : Int) := of_decide_eq_true ad
     have q584 : x4_1 < (l0.length : Int) := of_decide_eq_true ad
     obtain ⟨ad584, A584_1, c584_1, e584, hx584_0, hx584_1, hl584_1, hi584_1⟩ := at_T95 HR0.out x4_1 p584 q584; cases e584; replace hx584_0 := kp HB.out hx584_0; replace hx584_1 := kp HB.out hx584_1; have HR584_1 := am hi584_1; have HC584_1 := am hl584_1; clear hi584_1 hl584_1; replace p584 := eq_true p584; replace q584 := eq_true q584
     go_upto_region 8 with ((with_reducible refine gate_dst (N := 5) rfl ?_); ((refine gate_guard (by rfl) ?_; dsimp only)); refine bx 5 (cs := #[.bool false, .slice none 0 0]) (t := 95) ?_; intro gb585 hg w12 hbox hb; replace HO_3 := am (Kd.R_below (rq HO_3.out) hb); have BK585 := am (hbox); have GW585 := am ((b17_ : w.heap.size ≤ gb585)); have GE585 := am ((b17_ : w.heap.size ≤ gb585)); replace HB := am (below_step bel hb); clear hb hbox hg; have ⟨hcz13_0, hcz13_1, hfz13_0, hfz13_1⟩ := b2c BK585.out)
     go_cut [38] (fun v38 wc => ∃ (kq : Nat) (x38_10 : Bool), v38 = .bool x38_10 ∧ Aside0 (impl_MachineOk.j1 kq l0 x3_1 x4_1 x38_10 ((rd_T95 l0 x4_1).f0) ((rd_T95 l0 x4_1).f1) = some r) ∧ Aside0 (kq ≤ k1) ∧ Aside0 (Kd.R (Kd.int .i64) 3 wc w.heap.size (fun _ => True) v581 x3_1) ∧ Aside0 (wc.heap[gb585]? = some (.cells #[.bool ((rd_T95 l0 x4_1).f0), (.slice A584_1 ((rd_T95 l0 x4_1).f1).length c584_1)] 95 (0, 0))) ∧ Aside0 (Below w.heap.size w wc))
     case first =>
      have H := HC11.out; clear HC11
      by_cases c14 : x4_1 > 0
      ·rw [if_pos c14] at H; have c14b0 := decide_eq_true c14; clear c14
       (skip)
       obtain ⟨bq15, hbq15⟩ : ∃ b_ : Bool, b_ = ((rd_T95 l0 x4_1).f0) := ⟨_, rfl⟩
       replace H : (if (bq15 = true) then (impl_MachineOk.j1 k1 l0 x3_1 x4_1 false bq15 ((rd_T95 l0 x4_1).f1)) else (impl_MachineOk.j1 k1 l0 x3_1 x4_1 ((((rd_T95 l0 x4_1).f1).length : Int) == 0) bq15 ((rd_T95 l0 x4_1).f1))) = some r := by rw [← hbq15] at H; exact H
       have Nbq15 := am hbq15; clear hbq15
       by_cases c16 : (bq15 = true)
       ·subst c16
        rw [← Nbq15.out] at hx584_0
        rw [← Nbq15.out]
        rw [if_pos rfl] at H
        have H' := am H
        clear H; have ⟨hcz17_0, hcz17_1, hfz17_0, hfz17_1⟩ := b2c BK585.out; go_wp2
        go_meet
        case rel => rw [← Nbq15.out]; exact ⟨_, (false), sq, H', ⟨b39_⟩, ⟨rq (Kd.R_mono (Kd.R_far (p := ⟨gb585, 1, none⟩) (Kd.R_far (p := ⟨gb585, 0, none⟩) (Kd.R_types HO_3.out BK585.out (by decide)) (fun _ hk => hk.2) (.bool (true))) (fun _ hk => hk.2) (.slice A584_1 ((rd_T95 l0 x4_1).f1).length c584_1)) (fun _ hk => trivial))⟩, ⟨by (with_reducible repeat (fail)); refine blk_put (cs := #[.bool (true), .slice none 0 0]) ?_ 1 _ rfl; (with_reducible repeat (fail)); refine blk_put (cs := #[.bool false, .slice none 0 0]) ?_ 0 _ rfl; (with_reducible repeat (fail)); exact BK585.out⟩, ⟨bel1 GE585.out⟩⟩
       replace c16 := Bool.eq_false_iff.mpr c16; subst c16
       rw [← Nbq15.out] at hx584_0
       rw [← Nbq15.out]
       rw [if_neg Bool.false_ne_true] at H
       have H' := am H
       clear H; have ⟨hcz18_0, hcz18_1, hfz18_0, hfz18_1⟩ := b2c BK585.out; go_wp2
       go_meet
       case rel => rw [← Nbq15.out]; exact ⟨_, (((((rd_T95 l0 x4_1).f1).length : Int) == 0)), sq, H', ⟨b39_⟩, ⟨rq (Kd.R_mono (Kd.R_far (p := ⟨gb585, 1, none⟩) (Kd.R_far (p := ⟨gb585, 0, none⟩) (Kd.R_types HO_3.out BK585.out (by decide)) (fun _ hk => hk.2) (.bool (false))) (fun _ hk => hk.2) (.slice A584_1 ((rd_T95 l0 x4_1).f1).length c584_1)) (fun _ hk => trivial))⟩, ⟨by (with_reducible repeat (fail)); refine blk_put (cs := #[.bool (false), .slice none 0 0]) ?_ 1 _ rfl; (with_reducible repeat (fail)); refine blk_put (cs := #[.bool false, .slice none 0 0]) ?_ 0 _ rfl; (with_reducible repeat (fail)); exact BK585.out⟩, ⟨bel1 GE585.out⟩⟩
      rw [if_neg c14] at H; have c14b0 := decide_eq_false c14; clear c14
      (skip)
      have H' := am H
      clear H; go_wp2
      go_meet
      case rel => exact ⟨_, (false), sq, H', ⟨b39_⟩, ⟨rq (Kd.R_mono (Kd.R_far (p := ⟨gb585, 1, none⟩) (Kd.R_far (p := ⟨gb585, 0, none⟩) (Kd.R_types HO_3.out BK585.out (by decide)) (fun _ hk => hk.2) (.bool ((rd_T95 l0 x4_1).f0))) (fun _ hk => hk.2) (.slice A584_1 ((rd_T95 l0 x4_1).f1).length c584_1)) (fun _ hk => trivial))⟩, ⟨by (with_reducible repeat (fail)); refine blk_put (cs := #[.bool ((rd_T95 l0 x4_1).f0), .slice none 0 0]) ?_ 1 _ rfl; (with_reducible repeat (fail)); refine blk_put (cs := #[.bool false, .slice none 0 0]) ?_ 0 _ rfl; (with_reducible repeat (fail)); exact BK585.out⟩, ⟨bel1 GE585.out⟩⟩
     case rest =>
      clear HC11; clear c8b0 c9b0 c10b0 hcz13_0 hcz13_1 hfz13_0 hfz13_1 hx584_0 hx584_1 p584 q584; obtain ⟨kq, x38_10, rfl, HA, HJ10, HO_3, BK585, HB⟩ := hcut
      cases kq with
      | zero => exact absurd HA.out (by simp [impl_MachineOk.j1])
      | succ kj10 =>
       have H := HA.out; clear HA; simp only [impl_MachineOk.j1] at H
       by_cases c19 : x38_10 = true
       ·subst c19
        rw [if_pos rfl] at H
        obtain rfl := Option.some.inj H; go_wp2; go_ret
        exact ⟨eq_, bel1 GE585.out⟩
       replace c19 := Bool.eq_false_iff.mpr c19; subst c19
       rw [if_neg Bool.false_ne_true] at H; replace H := it H; obtain ⟨c20b0, H⟩ := H
       replace H := it H; obtain ⟨c21b0, H⟩ := H; obtain ⟨y586, hy586⟩ : ∃ y_ : List Int, y_ = (x3_1.set (x4_1 : Int).toNat (-1)) := ⟨_, rfl⟩
       replace H := bm H; rw [← hy586] at H
       have Ny586 := am hy586; clear hy586; have HC23 := am H; clear H
       have p22 : 0 ≤ (x4_1 : Int) := of_decide_eq_true ad
       have q22 : (x4_1 : Int) < ((x3_1.length : Int) : Int) := of_decide_eq_true ad
       obtain ⟨go22, co22, eo22, gb22, gl22, cl22, HG22⟩ := Kd.R_form HO_3.out (by omega)
       (cases eo22)
       have GB22 := Aside0.mk gb22; have GG22 := am HG22; clear gb22 gl22 HG22; obtain ⟨hx22_0, hf22_0⟩ := Kd.R_celln 0 HO_3.out (x4_1 : Int) p22 q22; replace p22 := eq_true p22; replace q22 := eq_true q22; have HP24 := Kd.R_putg HO_3.out (x4_1 : Int) (-1)
       go_upto_if 43 with ((with_reducible refine gate_store (t := 3) (p := 41) rfl ?_); refine store_event (t := 3) (p := 41) (v := ?vo_w25) (w1 := (wc.setCell ⟨go22, (x4_1 : Int).toNat, none⟩ (.int .i64 (-1)))) ?hg ?ho ?hn ?hr ?_; (case ho => rfl); (case hg => rfl); (case hn => rfl); (case hr => (go_simp; done)); intro w25 hw; have hg : wc.grownBy w25 (some go22) := (by rw [hw]; exact HP24.2); have hp_ : Kd.R (Kd.int .i64) 3 w25 w.heap.size (fun _ => True) (.slice (some ⟨go22, 0, none⟩) x3_1.length co22) y586 := (by rw [hw, Ny586.out]; exact HP24.1); clear HP24; replace BK585 := am (blk_grown (g := gb585) (o := .cells #[.bool ((rd_T95 l0 x4_1).f0), .slice A584_1 ((rd_T95 l0 x4_1).f1).length c584_1] 95 (0, 0)) (bq BK585.out) hg (Kd.R_ne HO_3.out BK585.out (by decide))); replace HO_3 := am (hp_); replace HB := am ((b109_ : Below w.heap.size w w25)); clear hg hw hp_; have ⟨hcz26_0, hcz26_1, hfz26_0, hfz26_1⟩ := b2c BK585.out)
       go_cut [] (fun wc => ∃ (kq : Nat) (x3_22 : List Int), Aside0 (impl_MachineOk.j2 kq l0 x3_22 x4_1 ((rd_T95 l0 x4_1).f0) ((rd_T95 l0 x4_1).f1) = some r) ∧ Aside0 (kq ≤ kj10) ∧ Aside0 (Kd.R (Kd.int .i64) 3 wc w.heap.size (fun _ => True) (.slice (some ⟨go22, 0, none⟩) x3_1.length co22) x3_22) ∧ Aside0 (wc.heap[gb585]? = some (.cells #[.bool ((rd_T95 l0 x4_1).f0), (.slice A584_1 ((rd_T95 l0 x4_1).f1).length c584_1)] 95 (0, 0))) ∧ Aside0 (Below w.heap.size w wc))
       case first =>
        have H := HC23.out; clear HC23
        by_cases c27 : ((rd_T95 l0 x4_1).f0) = true
        ·rw [if_pos c27] at H
         have c27b0 : ((rd_T95 l0 x4_1).f0) = true := c27
         clear c27
         (rw [c27b0])
         obtain ⟨y587, hy587⟩ : ∃ y_ : List Int, y_ = (y586.set (x4_1 : Int).toNat 0) := ⟨_, rfl⟩
         rw [← hy587] at H
         have Ny587 := am hy587; clear hy587
         have H' := am H
         clear H
         have p28 : 0 ≤ (x4_1 : Int) := of_decide_eq_true ad
         have q28 : (x4_1 : Int) < ((x3_1.length : Int) : Int) := of_decide_eq_true ad
         obtain ⟨hx28_0, hf28_0⟩ := Kd.R_celln 0 HO_3.out (x4_1 : Int) p28 q28; replace p28 := eq_true p28; replace q28 := eq_true q28; have HP29 := Kd.R_putg HO_3.out (x4_1 : Int) 0
         go_wp2_with ((with_reducible refine gate_store (t := 3) (p := 46) rfl ?_); refine store_event (t := 3) (p := 46) (v := ?vo_w30) (w1 := (w25.setCell ⟨go22, (x4_1 : Int).toNat, none⟩ (.int .i64 0))) ?hg ?ho ?hn ?hr ?_; (case ho => rfl); (case hg => rfl); (case hn => rfl); (case hr => (go_simp; done)); intro w30 hw; have hg : w25.grownBy w30 (some go22) := (by rw [hw]; exact HP29.2); have hp_ : Kd.R (Kd.int .i64) 3 w30 w.heap.size (fun _ => True) (.slice (some ⟨go22, 0, none⟩) x3_1.length co22) y587 := (by rw [hw, Ny587.out]; exact HP29.1); clear HP29; replace BK585 := am (blk_grown (g := gb585) (o := .cells #[.bool ((rd_T95 l0 x4_1).f0), .slice A584_1 ((rd_T95 l0 x4_1).f1).length c584_1] 95 (0, 0)) (bq BK585.out) hg (Kd.R_ne HO_3.out BK585.out (by decide))); replace HO_3 := am (hp_); replace HB := am ((b109_ : Below w.heap.size w w30)); clear hg hw hp_)
         go_meet
         case rel => exact ⟨_, (y587), H', ⟨by have := HK1.out; have := HJ10.out; omega⟩, ⟨rq HO_3.out⟩, ⟨bq BK585.out⟩, ⟨bel1 GE585.out⟩⟩
        rw [if_neg c27] at H
        have c27b0 : ((rd_T95 l0 x4_1).f0) = false := by simpa using c27
        clear c27
        (rw [c27b0])
        have H' := am H
        clear H; go_wp2
        go_meet
        case rel => exact ⟨_, (y586), H', ⟨by have := HK1.out; have := HJ10.out; omega⟩, ⟨rq HO_3.out⟩, ⟨bq BK585.out⟩, ⟨bel1 GE585.out⟩⟩
       case rest =>
        clear HC23; clear c20b0 c21b0 p22 q22 hcz26_0 hcz26_1 hfz26_0 hfz26_1 hx22_0; obtain ⟨kq, x3_22, HA, HJ22, HO_3, BK585, HB⟩ := hcut; have hl3_22 := (Kd.R_reads' HO_3.out).1; rw [hl3_22] at HO_3
        simp only [hl3_22]
        cases kq with
        | zero => exact absurd HA.out (by simp [impl_MachineOk.j2])
        | succ kj22 =>
         have H := HA.out; clear HA; simp only [impl_MachineOk.j2] at H
         have H' := am H
         clear H; have ⟨hcz31_0, hcz31_1, hfz31_0, hfz31_1⟩ := b2c BK585.out; go_wp2
         go_loopg [50] kj22 (fun kq v50 w' => ∃ (x3_4 : List Int) (x50_4 : Int), v50 = .int .i64 x50_4 ∧ Aside0 (impl_MachineOk.l1 kq l0 x3_4 x4_1 ((rd_T95 l0 x4_1).f1) (((rd_T95 l0 x4_1).f1).length : Int) x50_4 ((rd_T95 l0 x4_1).f0) ((rd_T95 l0 x4_1).f1) = some r) ∧ Aside0 (kq ≤ kj22) ∧ Aside0 (Kd.R (Kd.int .i64) 3 w' w.heap.size (fun _ => True) (.slice (some ⟨go22, 0, none⟩) x3_22.length co22) x3_4) ∧ Aside0 (w'.heap[gb585]? = some (.cells #[.bool ((rd_T95 l0 x4_1).f0), (.slice A584_1 ((rd_T95 l0 x4_1).f1).length c584_1)] 95 (0, 0))) ∧ Aside0 (Below w.heap.size w w'))
         case atStart => exact ⟨(x3_22), (0), sq, H', ⟨Nat.le_refl _⟩, ⟨by (with_reducible repeat (fail)); exact HO_3.out⟩, ⟨by (with_reducible repeat (fail)); exact BK585.out⟩, ⟨bel1 GE585.out⟩⟩
         case round =>
          clear H'; clear hcz31_0 hcz31_1 hfz31_0 hfz31_1; obtain ⟨x3_4, x50_4, rfl, HA, HK4, HO_3, BK585, HB⟩ := hrel; have hl3_4 := (Kd.R_reads' HO_3.out).1; rw [hl3_4] at HO_3
          simp only [hl3_4]
          cases gk with
          | zero => exact absurd HA.out (by simp [impl_MachineOk.l1])
          | succ k4 =>
           have H := HA.out; clear HA; simp only [impl_MachineOk.l1] at H
           by_cases c32 : x50_4 < (((rd_T95 l0 x4_1).f1).length : Int)
           ·rw [if_pos c32] at H; have c32b0 := decide_eq_true c32; clear c32
            replace H := it H; obtain ⟨c33b0, H⟩ := H; replace H := it H; obtain ⟨c34b0, H⟩ := H; have HC35 := am H; clear H
            have p588 : 0 ≤ (x50_4 : Int) := of_decide_eq_true ad
            have q588 : x50_4 < (((rd_T95 l0 x4_1).f1).length : Int) := of_decide_eq_true ad
            obtain ⟨ad588, e588, hx588_0, hx588_1⟩ := at_T97 HR584_1.out x50_4 p588 q588; cases e588; replace hx588_0 := kp HB.out hx588_0; replace hx588_1 := kp HB.out hx588_1; replace p588 := eq_true p588; replace q588 := eq_true q588
            go_upto_region 16 with ((with_reducible refine gate_dst (N := 7) rfl ?_); ((refine gate_guard (by rfl) ?_; dsimp only)); refine bx 7 (cs := #[.int .i64 0, .int .i64 0]) (t := 97) ?_; intro gb589 hg w36 hbox hb; replace HO_3 := am (Kd.R_below (rq HO_3.out) hb); have BK589 := am (hbox); have GW589 := am ((by rw [hg]; exact (below_size (bel1 GE585.out)) : w.heap.size ≤ gb589)); have GE589 := am ((by rw [hg]; exact (below_size (bel1 GE585.out)) : w.heap.size ≤ gb589)); replace HB := am (below_step (bel1 GE585.out) hb); have NB585_589 := am ((by rw [hg]; exact Nat.ne_of_lt (blk_lt (g := gb585) (o := .cells #[.bool ((rd_T95 l0 x4_1).f0), .slice (some ad588) ((rd_T95 l0 x4_1).f1).length c584_1] 95 (0, 0)) (bq BK585.out)) : gb585 ≠ gb589)); have NB589_585 := am ((by rw [hg]; exact Nat.ne_of_gt (blk_lt (g := gb585) (o := .cells #[.bool ((rd_T95 l0 x4_1).f0), .slice (some ad588) ((rd_T95 l0 x4_1).f1).length c584_1] 95 (0, 0)) (bq BK585.out)) : gb589 ≠ gb585)); replace BK585 := am (blk_below (bq BK585.out) hb); clear hb hbox hg; have hnb37 := NB589_585.out; have hnc37 := NB585_589.out; have ⟨hcz38_0, hcz38_1, hfz38_0, hfz38_1⟩ := b2c BK589.out)
            go_cut [85] (fun v85 wc => ∃ (kq : Nat) (x85_34 : Bool), v85 = .bool x85_34 ∧ Aside0 (impl_MachineOk.j4 kq l0 x3_4 x4_1 ((rd_T95 l0 x4_1).f1) (((rd_T95 l0 x4_1).f1).length : Int) x50_4 x85_34 ((rd_T95 l0 x4_1).f0) ((rd_T95 l0 x4_1).f1) ((rd_T97 ((rd_T95 l0 x4_1).f1) x50_4).f0) ((rd_T97 ((rd_T95 l0 x4_1).f1) x50_4).f1) = some r) ∧ Aside0 (kq ≤ k4) ∧ Aside0 (Kd.R (Kd.int .i64) 3 wc w.heap.size (fun _ => True) (.slice (some ⟨go22, 0, none⟩) x3_4.length co22) x3_4) ∧ Aside0 (wc.heap[gb585]? = some (.cells #[.bool ((rd_T95 l0 x4_1).f0), (.slice (some ad588) ((rd_T95 l0 x4_1).f1).length c584_1)] 95 (0, 0))) ∧ Aside0 (wc.heap[gb589]? = some (.cells #[.int .i64 ((rd_T97 ((rd_T95 l0 x4_1).f1) x50_4).f0), .int .i64 ((rd_T97 ((rd_T95 l0 x4_1).f1) x50_4).f1)] 97 (0, 0))) ∧ Aside0 (Below w.heap.size w wc))
            case first =>
             have H := HC35.out; clear HC35; replace H := bs H; obtain ⟨t590, A390, H⟩ := H; have A39 := Aside0.mk A390; clear A390
             by_cases c40 : t590 = true
             ·subst c40
              rw [if_pos rfl] at H
              by_cases c41 : x50_4 > 0
              ·rw [if_pos c41] at H; have c41b0 := decide_eq_true c41; clear c41
               (skip)
               obtain ⟨ji42, hji42⟩ : ∃ j_ : Int, (wrap64 (x50_4 - 1)) = j_ := ⟨_, rfl⟩
               rw [hji42] at H
               have hji42w : (IntKind.i64.wrap (x50_4 - 1)) = ji42 := (i64_w _).trans hji42
               replace H := it H; obtain ⟨c43b0, H⟩ := H; replace H := it H; obtain ⟨c44b0, H⟩ := H
               by_cases c45 : ((rd_T97 ((rd_T95 l0 x4_1).f1) (ji42)).f0) ≥ ((rd_T97 ((rd_T95 l0 x4_1).f1) x50_4).f0)
               ·rw [if_pos c45] at H; have c45b0 := decide_eq_true c45; clear c45
                have H' := am H
                clear H
                try go_wp2
                have n0_ : Aside0 (Kd.R (Kd.int .i64) 3 ((w36.setCell ⟨gb589, 0, none⟩ (.int .i64 ((rd_T97 ((rd_T95 l0 x4_1).f1) x50_4).f0))).setCell ⟨gb589, 1, none⟩ (.int .i64 ((rd_T97 ((rd_T95 l0 x4_1).f1) x50_4).f1))) w.heap.size (fun _ => True) (.slice (some ⟨go22, 0, none⟩) x3_4.length co22) x3_4) := ⟨rq (Kd.R_mono (Kd.R_far (p := ⟨gb589, 1, none⟩) (Kd.R_far (p := ⟨gb589, 0, none⟩) (Kd.R_types HO_3.out BK589.out (by decide)) (fun _ hk => hk.2) (.int .i64 ((rd_T97 ((rd_T95 l0 x4_1).f1) x50_4).f0))) (fun _ hk => hk.2) (.int .i64 ((rd_T97 ((rd_T95 l0 x4_1).f1) x50_4).f1))) (fun _ hk => trivial))⟩
                have n1_ : Aside0 (((w36.setCell ⟨gb589, 0, none⟩ (.int .i64 ((rd_T97 ((rd_T95 l0 x4_1).f1) x50_4).f0))).setCell ⟨gb589, 1, none⟩ (.int .i64 ((rd_T97 ((rd_T95 l0 x4_1).f1) x50_4).f1))).heap[gb585]? = some (.cells #[.bool ((rd_T95 l0 x4_1).f0), .slice (some ad588) ((rd_T95 l0 x4_1).f1).length c584_1] 95 (0, 0))) := ⟨b22_⟩
                have n2_ : Aside0 (((w36.setCell ⟨gb589, 0, none⟩ (.int .i64 ((rd_T97 ((rd_T95 l0 x4_1).f1) x50_4).f0))).setCell ⟨gb589, 1, none⟩ (.int .i64 ((rd_T97 ((rd_T95 l0 x4_1).f1) x50_4).f1))).heap[gb589]? = some (.cells #[.int .i64 ((rd_T97 ((rd_T95 l0 x4_1).f1) x50_4).f0), .int .i64 ((rd_T97 ((rd_T95 l0 x4_1).f1) x50_4).f1)] 97 (0, 0))) := ⟨b12_⟩
                have n3_ : Aside0 (Below w.heap.size w ((w36.setCell ⟨gb589, 0, none⟩ (.int .i64 ((rd_T97 ((rd_T95 l0 x4_1).f1) x50_4).f0))).setCell ⟨gb589, 1, none⟩ (.int .i64 ((rd_T97 ((rd_T95 l0 x4_1).f1) x50_4).f1)))) := ⟨bel2 GE585.out GE589.out⟩
                clear HO_3 BK585 BK589 HB; generalize ((w36.setCell ⟨gb589, 0, none⟩ (.int .i64 ((rd_T97 ((rd_T95 l0 x4_1).f1) x50_4).f0))).setCell ⟨gb589, 1, none⟩ (.int .i64 ((rd_T97 ((rd_T95 l0 x4_1).f1) x50_4).f1))) = w46 at n0_ n1_ n2_ n3_ ⊢; have HO_3 := n0_; have BK585 := n1_; have BK589 := n2_; have HB := n3_; clear n0_ n1_ n2_ n3_; replace HO_3 := am (Kd.R_drew HO_3.out); replace BK585 := am (blk_drew BK585.out); replace BK589 := am (blk_drew BK589.out); replace HB := am (below_drew1 HB.out)
                have p591 : 0 ≤ ((ji42) : Int) := of_decide_eq_true ad
                have q591 : (ji42) < (((rd_T95 l0 x4_1).f1).length : Int) := of_decide_eq_true ad
                obtain ⟨ad591, e591, hx591_0, hx591_1⟩ := at_T97 HR584_1.out (ji42) p591 q591; have hw591_1 := hx591_1; have hw591_0 := hx591_0
                obtain rfl : ad588 = ad591 := (by injection e591)
                replace hx591_0 := kp HB.out hx591_0; replace hx591_1 := kp HB.out hx591_1; replace p591 := eq_true p591; replace q591 := eq_true q591
                refine st (n := 31) (S := fun w' => w'.cell? ⟨gb589, 0, none⟩ = some (.int .i64 ((rd_T97 ((rd_T95 l0 x4_1).f1) x50_4).f0)) ∧ w'.cell? ⟨gb589, 1, none⟩ = some (.int .i64 ((rd_T97 ((rd_T95 l0 x4_1).f1) x50_4).f1)) ∧ w'.cell? ⟨gb585, 0, none⟩ = some (.bool ((rd_T95 l0 x4_1).f0)) ∧ w'.cell? ⟨gb585, 1, none⟩ = some (.slice (some ad588) ((rd_T95 l0 x4_1).f1).length c584_1) ∧ w'.cell? (ad588.add (((ji42)).toNat * 2)) = some (.int .i64 ((rd_T97 ((rd_T95 l0 x4_1).f1) (ji42)).f0)) ∧ w'.cell? ⟨(ad588.add (((ji42)).toNat * 2)).block, (ad588.add (((ji42)).toNat * 2)).off + 1, none⟩ = some (.int .i64 ((rd_T97 ((rd_T95 l0 x4_1).f1) (ji42)).f1))) (ds := []) ⟨bd BK589.out 0, bd BK589.out 1, bd BK585.out 0, bd BK585.out 1, (kp HB.out hw591_0), (kp HB.out hw591_1)⟩ (fun hHeld => ?_); refine with_tabW impl_MachineOk.tab16 impl_MachineOk.bits16 (fun HT_ HW_ => ?_)
                generalize w46.drew = w47 at HO_3 BK585 BK589 HB hx591_0 hx591_1 hHeld ⊢; refine pu 0 55 ?_; refine tk6 1 56 hHeld ?_; refine on1 2 57 (fun K hK => ?_)
                refine go1 Try.func77 #[.int .i64 ((rd_T97 ((rd_T95 l0 x4_1).f1) x50_4).f0), .int .i64 97, .int .i64 122] ?_
                with_reducible refine (impl_within.calls ((rd_T97 ((rd_T95 l0 x4_1).f1) x50_4).f0) 97 122 true _ A39.out).mono ?_
                rintro e w' ⟨rfl, ⟨nd, rfl⟩⟩
                refine ⟨_, rfl, ?_⟩; refine hK.out _ _ ⟨bd BK589.out 0, bd BK589.out 1, bd BK585.out 0, bd BK585.out 1, (kp HB.out hw591_0), (kp HB.out hw591_1)⟩ (fun hHeld => ?_); clear hK K; refine nm 57 ?_; refine pu 3 58 ?_; refine pu 4 59 ?_; refine pu 5 60 ?_; refine pu 6 61 ?_; refine pu 7 62 ?_; refine pu 8 63 ?_; refine pu 10 65 ?_; refine pu 11 66 ?_; refine pu 15 70 ?_; refine tk6 9 64 hHeld ?_; refine pu 12 67 ?_; refine pu 13 68 ?_; refine tk6 14 69 hHeld ?_; refine tk6 16 71 hHeld ?_; refine pu 17 72 ?_; refine pu 18 73 ?_; refine pu 19 74 ?_; refine pu 20 75 ?_; refine puu 21 76 ?_; refine puu 22 77 ?_; refine puu 23 78 ?_; refine puu 24 79 ?_; refine puu 25 80 ?_; refine puu 26 81 ?_; refine puu 27 82 ?_; refine puu 28 83 ?_; refine puu 29 84 ?_; refine pu 30 85 ?_
                refine done_ (done_of HT_.out (by kernel_rfl)) ?_
                try go_wp2
                go_meet
                case rel => exact ⟨_, (true), sq, H', ⟨b71_⟩, ⟨b36_⟩, ⟨b38_⟩, ⟨b52_⟩, ⟨bel2 GE585.out GE589.out⟩⟩
               rw [if_neg c45] at H; have c45b0 := decide_eq_false c45; clear c45; replace H := bs H; obtain ⟨t592, A480, H⟩ := H; have A48 := Aside0.mk A480; clear A480
               have H' := am H
               clear H
               try go_wp2
               have n0_ : Aside0 (Kd.R (Kd.int .i64) 3 ((w36.setCell ⟨gb589, 0, none⟩ (.int .i64 ((rd_T97 ((rd_T95 l0 x4_1).f1) x50_4).f0))).setCell ⟨gb589, 1, none⟩ (.int .i64 ((rd_T97 ((rd_T95 l0 x4_1).f1) x50_4).f1))) w.heap.size (fun _ => True) (.slice (some ⟨go22, 0, none⟩) x3_4.length co22) x3_4) := ⟨rq (Kd.R_mono (Kd.R_far (p := ⟨gb589, 1, none⟩) (Kd.R_far (p := ⟨gb589, 0, none⟩) (Kd.R_types HO_3.out BK589.out (by decide)) (fun _ hk => hk.2) (.int .i64 ((rd_T97 ((rd_T95 l0 x4_1).f1) x50_4).f0))) (fun _ hk => hk.2) (.int .i64 ((rd_T97 ((rd_T95 l0 x4_1).f1) x50_4).f1))) (fun _ hk => trivial))⟩
               have n1_ : Aside0 (((w36.setCell ⟨gb589, 0, none⟩ (.int .i64 ((rd_T97 ((rd_T95 l0 x4_1).f1) x50_4).f0))).setCell ⟨gb589, 1, none⟩ (.int .i64 ((rd_T97 ((rd_T95 l0 x4_1).f1) x50_4).f1))).heap[gb585]? = some (.cells #[.bool ((rd_T95 l0 x4_1).f0), .slice (some ad588) ((rd_T95 l0 x4_1).f1).length c584_1] 95 (0, 0))) := ⟨b22_⟩
               have n2_ : Aside0 (((w36.setCell ⟨gb589, 0, none⟩ (.int .i64 ((rd_T97 ((rd_T95 l0 x4_1).f1) x50_4).f0))).setCell ⟨gb589, 1, none⟩ (.int .i64 ((rd_T97 ((rd_T95 l0 x4_1).f1) x50_4).f1))).heap[gb589]? = some (.cells #[.int .i64 ((rd_T97 ((rd_T95 l0 x4_1).f1) x50_4).f0), .int .i64 ((rd_T97 ((rd_T95 l0 x4_1).f1) x50_4).f1)] 97 (0, 0))) := ⟨b12_⟩
               have n3_ : Aside0 (Below w.heap.size w ((w36.setCell ⟨gb589, 0, none⟩ (.int .i64 ((rd_T97 ((rd_T95 l0 x4_1).f1) x50_4).f0))).setCell ⟨gb589, 1, none⟩ (.int .i64 ((rd_T97 ((rd_T95 l0 x4_1).f1) x50_4).f1)))) := ⟨bel2 GE585.out GE589.out⟩
               clear HO_3 BK585 BK589 HB; generalize ((w36.setCell ⟨gb589, 0, none⟩ (.int .i64 ((rd_T97 ((rd_T95 l0 x4_1).f1) x50_4).f0))).setCell ⟨gb589, 1, none⟩ (.int .i64 ((rd_T97 ((rd_T95 l0 x4_1).f1) x50_4).f1))) = w49 at n0_ n1_ n2_ n3_ ⊢; have HO_3 := n0_; have BK585 := n1_; have BK589 := n2_; have HB := n3_; clear n0_ n1_ n2_ n3_; replace HO_3 := am (Kd.R_drew HO_3.out); replace BK585 := am (blk_drew BK585.out); replace BK589 := am (blk_drew BK589.out); replace HB := am (below_drew1 HB.out)
               have p591 : 0 ≤ ((ji42) : Int) := of_decide_eq_true ad
               have q591 : (ji42) < (((rd_T95 l0 x4_1).f1).length : Int) := of_decide_eq_true ad
               obtain ⟨ad591, e591, hx591_0, hx591_1⟩ := at_T97 HR584_1.out (ji42) p591 q591; have hw591_1 := hx591_1; have hw591_0 := hx591_0
               obtain rfl : ad588 = ad591 := (by injection e591)
               replace hx591_0 := kp HB.out hx591_0; replace hx591_1 := kp HB.out hx591_1; replace p591 := eq_true p591; replace q591 := eq_true q591
               refine st (n := 31) (S := fun w' => w'.cell? ⟨gb589, 0, none⟩ = some (.int .i64 ((rd_T97 ((rd_T95 l0 x4_1).f1) x50_4).f0)) ∧ w'.cell? ⟨gb589, 1, none⟩ = some (.int .i64 ((rd_T97 ((rd_T95 l0 x4_1).f1) x50_4).f1)) ∧ w'.cell? ⟨gb585, 0, none⟩ = some (.bool ((rd_T95 l0 x4_1).f0)) ∧ w'.cell? ⟨gb585, 1, none⟩ = some (.slice (some ad588) ((rd_T95 l0 x4_1).f1).length c584_1) ∧ w'.cell? (ad588.add (((ji42)).toNat * 2)) = some (.int .i64 ((rd_T97 ((rd_T95 l0 x4_1).f1) (ji42)).f0)) ∧ w'.cell? ⟨(ad588.add (((ji42)).toNat * 2)).block, (ad588.add (((ji42)).toNat * 2)).off + 1, none⟩ = some (.int .i64 ((rd_T97 ((rd_T95 l0 x4_1).f1) (ji42)).f1))) (ds := []) ⟨bd BK589.out 0, bd BK589.out 1, bd BK585.out 0, bd BK585.out 1, (kp HB.out hw591_0), (kp HB.out hw591_1)⟩ (fun hHeld => ?_); refine with_tabW impl_MachineOk.tab16 impl_MachineOk.bits16 (fun HT_ HW_ => ?_)
               generalize w49.drew = w50 at HO_3 BK585 BK589 HB hx591_0 hx591_1 hHeld ⊢; refine pu 0 55 ?_; refine tk6 1 56 hHeld ?_; refine on1 2 57 (fun K hK => ?_)
               refine go1 Try.func77 #[.int .i64 ((rd_T97 ((rd_T95 l0 x4_1).f1) x50_4).f0), .int .i64 97, .int .i64 122] ?_
               with_reducible refine (impl_within.calls ((rd_T97 ((rd_T95 l0 x4_1).f1) x50_4).f0) 97 122 true _ A39.out).mono ?_
               rintro e w' ⟨rfl, ⟨nd, rfl⟩⟩
               refine ⟨_, rfl, ?_⟩; refine hK.out _ _ ⟨bd BK589.out 0, bd BK589.out 1, bd BK585.out 0, bd BK585.out 1, (kp HB.out hw591_0), (kp HB.out hw591_1)⟩ (fun hHeld => ?_); clear hK K; refine nm 57 ?_; refine pu 3 58 ?_; refine pu 4 59 ?_; refine pu 5 60 ?_; refine pu 6 61 ?_; refine pu 7 62 ?_; refine pu 8 63 ?_; refine pu 10 65 ?_; refine pu 11 66 ?_; refine pu 15 70 ?_; refine tk6 9 64 hHeld ?_; refine pu 12 67 ?_; refine pu 13 68 ?_; refine tk6 14 69 hHeld ?_; refine tk6 16 71 hHeld ?_; refine pu 17 72 ?_; refine pu 18 73 ?_; refine pu 19 74 ?_; refine pu 20 75 ?_; refine pu 21 76 ?_; refine pu 23 78 ?_; refine pu 24 79 ?_; refine pu 25 80 ?_; refine pu 26 81 ?_; refine pu 27 82 ?_; refine tk6 22 77 hHeld ?_; refine on1 28 83 (fun K hK => ?_)
               refine go1 Try.func77 #[.int .i64 ((rd_T97 ((rd_T95 l0 x4_1).f1) x50_4).f1), .int .i64 (wrap64 (x4_1 + 1)), .int .i64 (wrap64 ((l0.length : Int) - 1))] ?_
               with_reducible refine (impl_within.calls ((rd_T97 ((rd_T95 l0 x4_1).f1) x50_4).f1) (wrap64 (x4_1 + 1)) (wrap64 ((l0.length : Int) - 1)) t592 _ A48.out).mono ?_
               rintro e w' ⟨rfl, ⟨nd, rfl⟩⟩
               refine ⟨_, rfl, ?_⟩; refine hK.out _ _ ⟨bd BK589.out 0, bd BK589.out 1, bd BK585.out 0, bd BK585.out 1, (kp HB.out hw591_0), (kp HB.out hw591_1)⟩ (fun hHeld => ?_); clear hK K; refine nm 83 ?_; refine pu 29 84 ?_; refine pu 30 85 ?_
               refine done_ (done_of HT_.out (by kernel_rfl)) ?_
               try go_wp2
               go_meet
               case rel => exact ⟨_, (!t592), sq, H', ⟨b71_⟩, ⟨b36_⟩, ⟨b38_⟩, ⟨b52_⟩, ⟨bel2 GE585.out GE589.out⟩⟩
              rw [if_neg c41] at H; have c41b0 := decide_eq_false c41; clear c41
              (skip)
              replace H := bs H; obtain ⟨t593, A510, H⟩ := H; have A51 := Aside0.mk A510; clear A510
              have H' := am H
              clear H
              try go_wp2
              have n0_ : Aside0 (Kd.R (Kd.int .i64) 3 ((w36.setCell ⟨gb589, 0, none⟩ (.int .i64 ((rd_T97 ((rd_T95 l0 x4_1).f1) x50_4).f0))).setCell ⟨gb589, 1, none⟩ (.int .i64 ((rd_T97 ((rd_T95 l0 x4_1).f1) x50_4).f1))) w.heap.size (fun _ => True) (.slice (some ⟨go22, 0, none⟩) x3_4.length co22) x3_4) := ⟨rq (Kd.R_mono (Kd.R_far (p := ⟨gb589, 1, none⟩) (Kd.R_far (p := ⟨gb589, 0, none⟩) (Kd.R_types HO_3.out BK589.out (by decide)) (fun _ hk => hk.2) (.int .i64 ((rd_T97 ((rd_T95 l0 x4_1).f1) x50_4).f0))) (fun _ hk => hk.2) (.int .i64 ((rd_T97 ((rd_T95 l0 x4_1).f1) x50_4).f1))) (fun _ hk => trivial))⟩
              have n1_ : Aside0 (((w36.setCell ⟨gb589, 0, none⟩ (.int .i64 ((rd_T97 ((rd_T95 l0 x4_1).f1) x50_4).f0))).setCell ⟨gb589, 1, none⟩ (.int .i64 ((rd_T97 ((rd_T95 l0 x4_1).f1) x50_4).f1))).heap[gb585]? = some (.cells #[.bool ((rd_T95 l0 x4_1).f0), .slice (some ad588) ((rd_T95 l0 x4_1).f1).length c584_1] 95 (0, 0))) := ⟨b22_⟩
              have n2_ : Aside0 (((w36.setCell ⟨gb589, 0, none⟩ (.int .i64 ((rd_T97 ((rd_T95 l0 x4_1).f1) x50_4).f0))).setCell ⟨gb589, 1, none⟩ (.int .i64 ((rd_T97 ((rd_T95 l0 x4_1).f1) x50_4).f1))).heap[gb589]? = some (.cells #[.int .i64 ((rd_T97 ((rd_T95 l0 x4_1).f1) x50_4).f0), .int .i64 ((rd_T97 ((rd_T95 l0 x4_1).f1) x50_4).f1)] 97 (0, 0))) := ⟨b12_⟩
              have n3_ : Aside0 (Below w.heap.size w ((w36.setCell ⟨gb589, 0, none⟩ (.int .i64 ((rd_T97 ((rd_T95 l0 x4_1).f1) x50_4).f0))).setCell ⟨gb589, 1, none⟩ (.int .i64 ((rd_T97 ((rd_T95 l0 x4_1).f1) x50_4).f1)))) := ⟨bel2 GE585.out GE589.out⟩
              clear HO_3 BK585 BK589 HB; generalize ((w36.setCell ⟨gb589, 0, none⟩ (.int .i64 ((rd_T97 ((rd_T95 l0 x4_1).f1) x50_4).f0))).setCell ⟨gb589, 1, none⟩ (.int .i64 ((rd_T97 ((rd_T95 l0 x4_1).f1) x50_4).f1))) = w52 at n0_ n1_ n2_ n3_ ⊢; have HO_3 := n0_; have BK585 := n1_; have BK589 := n2_; have HB := n3_; clear n0_ n1_ n2_ n3_; replace HO_3 := am (Kd.R_drew HO_3.out); replace BK585 := am (blk_drew BK585.out); replace BK589 := am (blk_drew BK589.out); replace HB := am (below_drew1 HB.out)
              refine st (n := 31) (S := fun w' => w'.cell? ⟨gb589, 0, none⟩ = some (.int .i64 ((rd_T97 ((rd_T95 l0 x4_1).f1) x50_4).f0)) ∧ w'.cell? ⟨gb589, 1, none⟩ = some (.int .i64 ((rd_T97 ((rd_T95 l0 x4_1).f1) x50_4).f1))) (ds := []) ⟨bd BK589.out 0, bd BK589.out 1⟩ (fun hHeld => ?_); refine with_tabW impl_MachineOk.tab16 impl_MachineOk.bits16 (fun HT_ HW_ => ?_)
              generalize w52.drew = w53 at HO_3 BK585 BK589 HB hHeld ⊢; refine pu 0 55 ?_; refine tk2 1 56 hHeld ?_; refine on1 2 57 (fun K hK => ?_)
              refine go1 Try.func77 #[.int .i64 ((rd_T97 ((rd_T95 l0 x4_1).f1) x50_4).f0), .int .i64 97, .int .i64 122] ?_
              with_reducible refine (impl_within.calls ((rd_T97 ((rd_T95 l0 x4_1).f1) x50_4).f0) 97 122 true _ A39.out).mono ?_
              rintro e w' ⟨rfl, ⟨nd, rfl⟩⟩
              refine ⟨_, rfl, ?_⟩; refine hK.out _ _ ⟨bd BK589.out 0, bd BK589.out 1⟩ (fun hHeld => ?_); clear hK K; refine nm 57 ?_; refine pu 3 58 ?_; refine pu 4 59 ?_; refine pu 5 60 ?_; refine pu 6 61 ?_; refine pu 7 62 ?_; refine puu 8 63 ?_; refine puu 9 64 ?_; refine puu 10 65 ?_; refine puu 11 66 ?_; refine puu 12 67 ?_; refine puu 13 68 ?_; refine puu 14 69 ?_; refine puu 15 70 ?_; refine puu 16 71 ?_; refine puu 17 72 ?_; refine pu 18 73 ?_; refine pu 19 74 ?_; refine pu 20 75 ?_; refine pu 21 76 ?_; refine pu 23 78 ?_; refine pu 24 79 ?_; refine pu 25 80 ?_; refine pu 26 81 ?_; refine pu 27 82 ?_; refine tk2 22 77 hHeld ?_; refine on1 28 83 (fun K hK => ?_)
              refine go1 Try.func77 #[.int .i64 ((rd_T97 ((rd_T95 l0 x4_1).f1) x50_4).f1), .int .i64 (wrap64 (x4_1 + 1)), .int .i64 (wrap64 ((l0.length : Int) - 1))] ?_
              with_reducible refine (impl_within.calls ((rd_T97 ((rd_T95 l0 x4_1).f1) x50_4).f1) (wrap64 (x4_1 + 1)) (wrap64 ((l0.length : Int) - 1)) t593 _ A51.out).mono ?_
              rintro e w' ⟨rfl, ⟨nd, rfl⟩⟩
              refine ⟨_, rfl, ?_⟩; refine hK.out _ _ ⟨bd BK589.out 0, bd BK589.out 1⟩ (fun hHeld => ?_); clear hK K; refine nm 83 ?_; refine pu 29 84 ?_; refine pu 30 85 ?_
              refine done_ (done_of HT_.out (by kernel_rfl)) ?_
              try go_wp2
              go_meet
              case rel => exact ⟨_, (!t593), sq, H', ⟨b71_⟩, ⟨b36_⟩, ⟨b38_⟩, ⟨b52_⟩, ⟨bel2 GE585.out GE589.out⟩⟩
             replace c40 := Bool.eq_false_iff.mpr c40; subst c40
             rw [if_neg Bool.false_ne_true] at H
             have H' := am H
             clear H
             try go_wp2
             have n0_ : Aside0 (Kd.R (Kd.int .i64) 3 ((w36.setCell ⟨gb589, 0, none⟩ (.int .i64 ((rd_T97 ((rd_T95 l0 x4_1).f1) x50_4).f0))).setCell ⟨gb589, 1, none⟩ (.int .i64 ((rd_T97 ((rd_T95 l0 x4_1).f1) x50_4).f1))) w.heap.size (fun _ => True) (.slice (some ⟨go22, 0, none⟩) x3_4.length co22) x3_4) := ⟨rq (Kd.R_mono (Kd.R_far (p := ⟨gb589, 1, none⟩) (Kd.R_far (p := ⟨gb589, 0, none⟩) (Kd.R_types HO_3.out BK589.out (by decide)) (fun _ hk => hk.2) (.int .i64 ((rd_T97 ((rd_T95 l0 x4_1).f1) x50_4).f0))) (fun _ hk => hk.2) (.int .i64 ((rd_T97 ((rd_T95 l0 x4_1).f1) x50_4).f1))) (fun _ hk => trivial))⟩
             have n1_ : Aside0 (((w36.setCell ⟨gb589, 0, none⟩ (.int .i64 ((rd_T97 ((rd_T95 l0 x4_1).f1) x50_4).f0))).setCell ⟨gb589, 1, none⟩ (.int .i64 ((rd_T97 ((rd_T95 l0 x4_1).f1) x50_4).f1))).heap[gb585]? = some (.cells #[.bool ((rd_T95 l0 x4_1).f0), .slice (some ad588) ((rd_T95 l0 x4_1).f1).length c584_1] 95 (0, 0))) := ⟨b22_⟩
             have n2_ : Aside0 (((w36.setCell ⟨gb589, 0, none⟩ (.int .i64 ((rd_T97 ((rd_T95 l0 x4_1).f1) x50_4).f0))).setCell ⟨gb589, 1, none⟩ (.int .i64 ((rd_T97 ((rd_T95 l0 x4_1).f1) x50_4).f1))).heap[gb589]? = some (.cells #[.int .i64 ((rd_T97 ((rd_T95 l0 x4_1).f1) x50_4).f0), .int .i64 ((rd_T97 ((rd_T95 l0 x4_1).f1) x50_4).f1)] 97 (0, 0))) := ⟨b12_⟩
             have n3_ : Aside0 (Below w.heap.size w ((w36.setCell ⟨gb589, 0, none⟩ (.int .i64 ((rd_T97 ((rd_T95 l0 x4_1).f1) x50_4).f0))).setCell ⟨gb589, 1, none⟩ (.int .i64 ((rd_T97 ((rd_T95 l0 x4_1).f1) x50_4).f1)))) := ⟨bel2 GE585.out GE589.out⟩
             clear HO_3 BK585 BK589 HB; generalize ((w36.setCell ⟨gb589, 0, none⟩ (.int .i64 ((rd_T97 ((rd_T95 l0 x4_1).f1) x50_4).f0))).setCell ⟨gb589, 1, none⟩ (.int .i64 ((rd_T97 ((rd_T95 l0 x4_1).f1) x50_4).f1))) = w54 at n0_ n1_ n2_ n3_ ⊢; have HO_3 := n0_; have BK585 := n1_; have BK589 := n2_; have HB := n3_; clear n0_ n1_ n2_ n3_; replace HO_3 := am (Kd.R_drew HO_3.out); replace BK585 := am (blk_drew BK585.out); replace BK589 := am (blk_drew BK589.out); replace HB := am (below_drew1 HB.out)
             refine st (n := 31) (S := fun w' => w'.cell? ⟨gb589, 0, none⟩ = some (.int .i64 ((rd_T97 ((rd_T95 l0 x4_1).f1) x50_4).f0)) ∧ w'.cell? ⟨gb589, 1, none⟩ = some (.int .i64 ((rd_T97 ((rd_T95 l0 x4_1).f1) x50_4).f1))) (ds := []) ⟨bd BK589.out 0, bd BK589.out 1⟩ (fun hHeld => ?_); refine with_tabW impl_MachineOk.tab16 impl_MachineOk.bits16 (fun HT_ HW_ => ?_)
             generalize w54.drew = w55 at HO_3 BK585 BK589 HB hHeld ⊢; refine pu 0 55 ?_; refine tk2 1 56 hHeld ?_; refine on1 2 57 (fun K hK => ?_)
             refine go1 Try.func77 #[.int .i64 ((rd_T97 ((rd_T95 l0 x4_1).f1) x50_4).f0), .int .i64 97, .int .i64 122] ?_
             with_reducible refine (impl_within.calls ((rd_T97 ((rd_T95 l0 x4_1).f1) x50_4).f0) 97 122 false _ A39.out).mono ?_
             rintro e w' ⟨rfl, ⟨nd, rfl⟩⟩
             refine ⟨_, rfl, ?_⟩; refine hK.out _ _ ⟨bd BK589.out 0, bd BK589.out 1⟩ (fun hHeld => ?_); clear hK K; refine nm 57 ?_; refine pu 3 58 ?_; refine pu 4 59 ?_; refine puu 5 60 ?_; refine puu 6 61 ?_; refine puu 7 62 ?_; refine puu 8 63 ?_; refine puu 9 64 ?_; refine puu 10 65 ?_; refine puu 11 66 ?_; refine puu 12 67 ?_; refine puu 13 68 ?_; refine puu 14 69 ?_; refine puu 15 70 ?_; refine puu 16 71 ?_; refine puu 17 72 ?_; refine puu 18 73 ?_; refine pu 19 74 ?_; refine pu 20 75 ?_; refine puu 21 76 ?_; refine puu 22 77 ?_; refine puu 23 78 ?_; refine puu 24 79 ?_; refine puu 25 80 ?_; refine puu 26 81 ?_; refine puu 27 82 ?_; refine puu 28 83 ?_; refine puu 29 84 ?_; refine pu 30 85 ?_
             refine done_ (done_of HT_.out (by kernel_rfl)) ?_
             try go_wp2
             go_meet
             case rel => exact ⟨_, (true), sq, H', ⟨b71_⟩, ⟨b36_⟩, ⟨b38_⟩, ⟨b52_⟩, ⟨bel2 GE585.out GE589.out⟩⟩
            case rest =>
             clear HC35; obtain ⟨kq, x85_34, rfl, HA, HJ34, HO_3, BK585, BK589, HB⟩ := hcut
             cases kq with
             | zero => exact absurd HA.out (by simp [impl_MachineOk.j4])
             | succ kj34 =>
              have H := HA.out; clear HA; simp only [impl_MachineOk.j4] at H
              by_cases c56 : x85_34 = true
              ·subst c56
               rw [if_pos rfl] at H
               obtain rfl := Option.some.inj H; go_wp2; go_ret
               exact ⟨eq_, bel2 GE585.out GE589.out⟩
              replace c56 := Bool.eq_false_iff.mpr c56; subst c56
              rw [if_neg Bool.false_ne_true] at H; replace H := it H; obtain ⟨c57b0, H⟩ := H; replace H := it H; obtain ⟨c58b0, H⟩ := H
              by_cases c59 : (rd x3_4 ((rd_T97 ((rd_T95 l0 x4_1).f1) x50_4).f1)) ≥ 0
              ·rw [if_pos c59] at H; have c59b0 := decide_eq_true c59; clear c59
               replace H := it H; obtain ⟨c60b0, H⟩ := H
               replace H := it H; obtain ⟨c61b0, H⟩ := H; obtain ⟨ji62, hji62⟩ : ∃ j_ : Int, (mx (rd x3_4 x4_1) (wrap64 ((rd x3_4 ((rd_T97 ((rd_T95 l0 x4_1).f1) x50_4).f1)) + 1))) = j_ := ⟨_, rfl⟩
               rw [hji62] at H
               have hji62_ : (if (rd x3_4 x4_1) < (wrap64 ((rd x3_4 ((rd_T97 ((rd_T95 l0 x4_1).f1) x50_4).f1)) + 1)) then (wrap64 ((rd x3_4 ((rd_T97 ((rd_T95 l0 x4_1).f1) x50_4).f1)) + 1)) else (rd x3_4 x4_1)) = ji62 := hji62
               obtain ⟨y597, hy597⟩ : ∃ y_ : List Int, y_ = (x3_4.set (x4_1 : Int).toNat (ji62)) := ⟨_, rfl⟩
               rw [← hy597] at H
               have Ny597 := am hy597; clear hy597
               have H' := am H
               clear H; have hnb64 := NB589_585.out; have hnc64 := NB585_589.out
               have hcz65_0 : wc.cell? ⟨gb589, 0, none⟩ = some (.int .i64 ((rd_T97 ((rd_T95 l0 x4_1).f1) x50_4).f0)) := bd BK589.out 0
               have hcz65_1 : wc.cell? ⟨gb589, 1, none⟩ = some (.int .i64 ((rd_T97 ((rd_T95 l0 x4_1).f1) x50_4).f1)) := bd BK589.out 1
               have hfz65_0 := bf BK589.out 0; have hfz65_1 := bf BK589.out 1
               have p594 : 0 ≤ (((rd_T97 ((rd_T95 l0 x4_1).f1) x50_4).f1) : Int) := of_decide_eq_true ad
               have q594 : ((rd_T97 ((rd_T95 l0 x4_1).f1) x50_4).f1) < (x3_4.length : Int) := of_decide_eq_true ad
               obtain ⟨ad594, e594, hx594_0⟩ := Kd.at_int (Kd.R_reads' HO_3.out).2.2 ((rd_T97 ((rd_T95 l0 x4_1).f1) x50_4).f1) p594 q594
               obtain rfl : (⟨go22, 0, none⟩ : Addr) = ad594 := (by injection e594)
               (simp only [add_plain] at hx594_0)
               replace p594 := eq_true p594; replace q594 := eq_true q594
               try go_wp2
               replace HO_3 := am (Kd.R_drew HO_3.out); replace BK585 := am (blk_drew BK585.out); replace BK589 := am (blk_drew BK589.out); replace HB := am (below_drew1 HB.out)
               have p595 : 0 ≤ (x4_1 : Int) := of_decide_eq_true ad
               have q595 : x4_1 < (x3_4.length : Int) := of_decide_eq_true ad
               obtain ⟨ad595, e595, hx595_0⟩ := Kd.at_int (Kd.R_reads' HO_3.out).2.2 x4_1 p595 q595
               obtain rfl : (⟨go22, 0, none⟩ : Addr) = ad595 := (by injection e595)
               (simp only [add_plain] at hx595_0)
               replace p595 := eq_true p595; replace q595 := eq_true q595
               have p596 : 0 ≤ (((rd_T97 ((rd_T95 l0 x4_1).f1) x50_4).f1) : Int) := of_decide_eq_true ad
               have q596 : ((rd_T97 ((rd_T95 l0 x4_1).f1) x50_4).f1) < (x3_4.length : Int) := of_decide_eq_true ad
               obtain ⟨ad596, e596, hx596_0⟩ := Kd.at_int (Kd.R_reads' HO_3.out).2.2 ((rd_T97 ((rd_T95 l0 x4_1).f1) x50_4).f1) p596 q596
               obtain rfl : (⟨go22, 0, none⟩ : Addr) = ad596 := (by injection e596)
               (simp only [add_plain] at hx596_0)
               replace p596 := eq_true p596; replace q596 := eq_true q596
               have p63 : 0 ≤ (x4_1 : Int) := of_decide_eq_true ad
               have q63 : (x4_1 : Int) < ((x3_4.length : Int) : Int) := of_decide_eq_true ad
               obtain ⟨hx63_0, hf63_0⟩ := Kd.R_celln 0 HO_3.out (x4_1 : Int) p63 q63; replace p63 := eq_true p63; replace q63 := eq_true q63; have HP67 := Kd.R_putn HO_3.out (x4_1 : Int) ji62; rw [← Ny597.out] at HP67; have HQ67 := am HP67; clear HP67
               refine start_ (n := 15) (S := fun w' => w'.cell? ⟨gb589, 0, none⟩ = some (.int .i64 ((rd_T97 ((rd_T95 l0 x4_1).f1) x50_4).f0)) ∧ w'.cell? ⟨gb589, 1, none⟩ = some (.int .i64 ((rd_T97 ((rd_T95 l0 x4_1).f1) x50_4).f1)) ∧ w'.cell? ⟨go22, (x4_1).toNat, none⟩ = some (.int .i64 (rd x3_4 x4_1)) ∧ w'.cell? ⟨go22, (((rd_T97 ((rd_T95 l0 x4_1).f1) x50_4).f1)).toNat, none⟩ = some (.int .i64 (rd x3_4 ((rd_T97 ((rd_T95 l0 x4_1).f1) x50_4).f1)))) (ds := [14]) #[false, false, false, false, false, false, false, false, false, false, false, false, false, false, false] (by kernel_rfl) rfl rfl ⟨bd BK589.out 0, bd BK589.out 1, hx595_0, hx596_0⟩ (fun hHeld => ?_); refine with_tabW impl_MachineOk.tab19 impl_MachineOk.bits19 (fun HT_ HW_ => ?_)
               generalize wc.drew = w66 at HO_3 BK585 BK589 HB HQ67 hf63_0 hx595_0 hx596_0 hx63_0 hHeld ⊢; refine pu 0 92 ?_; refine pu 1 93 ?_; refine pu 2 94 ?_; refine pu 3 95 ?_; refine pu 4 96 ?_; refine pu 6 98 ?_; refine pu 7 99 ?_; refine tk4 5 97 hHeld ?_; refine tk4 8 100 hHeld ?_; refine pu 9 101 ?_; refine tk4 10 102 hHeld ?_; refine pu 11 103 ?_; refine pu 12 104 ?_; refine pu 13 105 ?_
               refine last_ (i := 14) (N := none) #[true, true, true, true, true, true, true, true, true, true, true, true, true, true, true] rfl rfl (one_of HT_.out (by kernel_rfl)) (by decide) (fun K hK => ?_)
               refine skip_ (w1 := ?_) (by rfl) rfl ?_ ?_
               rotate_left
               ·go_simp
                rfl
               refine hK.out _ _ ?_; clear hK K
               refine done_ (done_of HT_.out (by kernel_rfl)) ?_
               try go_wp2
               simp only [← hl3_4]
               go_roundg kj34
               case measure => have := HK1.out; have := HJ10.out; have := HJ22.out; have := HK4.out; have := HJ34.out; omega
               case rel => exact ⟨(y597), (wrap64 (x50_4 + 1)), sq, H', ⟨by have := HK1.out; have := HJ10.out; have := HJ22.out; have := HK4.out; have := HJ34.out; omega⟩, ⟨by simp only [hl3_4]; (with_reducible repeat (fail)); exact HQ67.out⟩, ⟨by (with_reducible repeat (fail)); refine blk_far ?_ (by have h_ := Kd.R_ne HO_3.out BK585.out (by decide); intro e_; exact h_ (by rw [e_]; rfl)) _; (with_reducible repeat (fail)); exact BK585.out⟩, ⟨bel3 GB22.out GE585.out GE589.out⟩⟩
              rw [if_neg c59] at H; have c59b0 := decide_eq_false c59; clear c59
              have H' := am H
              clear H; have hnb68 := NB589_585.out; have hnc68 := NB585_589.out
              have hcz69_0 : wc.cell? ⟨gb589, 0, none⟩ = some (.int .i64 ((rd_T97 ((rd_T95 l0 x4_1).f1) x50_4).f0)) := bd BK589.out 0
              have hcz69_1 : wc.cell? ⟨gb589, 1, none⟩ = some (.int .i64 ((rd_T97 ((rd_T95 l0 x4_1).f1) x50_4).f1)) := bd BK589.out 1
              have hfz69_0 := bf BK589.out 0; have hfz69_1 := bf BK589.out 1
              have p594 : 0 ≤ (((rd_T97 ((rd_T95 l0 x4_1).f1) x50_4).f1) : Int) := of_decide_eq_true ad
              have q594 : ((rd_T97 ((rd_T95 l0 x4_1).f1) x50_4).f1) < (x3_4.length : Int) := of_decide_eq_true ad
              obtain ⟨ad594, e594, hx594_0⟩ := Kd.at_int (Kd.R_reads' HO_3.out).2.2 ((rd_T97 ((rd_T95 l0 x4_1).f1) x50_4).f1) p594 q594
              obtain rfl : (⟨go22, 0, none⟩ : Addr) = ad594 := (by injection e594)
              (simp only [add_plain] at hx594_0)
              replace p594 := eq_true p594; replace q594 := eq_true q594; go_wp2
              simp only [← hl3_4]
              go_roundg kj34
              case measure => have := HK1.out; have := HJ10.out; have := HJ22.out; have := HK4.out; have := HJ34.out; omega
              case rel => exact ⟨(x3_4), (wrap64 (x50_4 + 1)), sq, H', ⟨by have := HK1.out; have := HJ10.out; have := HJ22.out; have := HK4.out; have := HJ34.out; omega⟩, ⟨b36_⟩, ⟨b38_⟩, ⟨bel2 GE585.out GE589.out⟩⟩
           rw [if_neg c32] at H; have c32b0 := decide_eq_false c32; clear c32
           have H' := am H
           clear H; go_wp2
           simp only [← hl3_22, ← hl3_4]
           go_roundg k4
           case measure => have := HK1.out; have := HJ10.out; have := HJ22.out; have := HK4.out; omega
           case rel => exact ⟨(x3_4), (wrap64 (x4_1 - 1)), sq, H', ⟨by have := HK1.out; have := HJ10.out; have := HJ22.out; have := HK4.out; omega⟩, ⟨b36_⟩, ⟨bel1 GE585.out⟩⟩
    rw [if_neg c8] at H; have c8b0 := decide_eq_false c8; clear c8; replace H := ip H; obtain ⟨c70, H⟩ := H; have c70b0 := decide_eq_true c70
    have c70b1 : decide (0 < x3_1.length) = true := decide_eq_true (by omega)
    clear c70; obtain rfl := Option.some.inj H; obtain ⟨Ao71, co71, eo71⟩ := Kd.R_slice HO_3.out; subst eo71
    have p583 : 0 ≤ (0 : Int) := (by omega)
    have q583 : 0 < (x3_1.length : Int) := of_decide_eq_true ad
    obtain ⟨ad583, e583, hx583_0⟩ := Kd.at_int (Kd.R_reads' HO_3.out).2.2 0 p583 q583; cases e583
    have qi583 : (0 < x3_1.length) = True := eq_true (by omega)
    rw [show ((0 : Int)).toNat = 0 from rfl] at hx583_0
    rw [Addr.add_zero'] at hx583_0
    replace p583 := eq_true p583; replace q583 := eq_true q583; go_wp2; go_ret
    exact ⟨eq_, bel⟩
 replace c3 := Bool.eq_false_iff.mpr c3; subst c3
 rw [if_neg Bool.false_ne_true] at H
 obtain rfl := Option.some.inj H; go_enter Try.func69, Try.ntmps69
 go_wp2_with ((with_reducible refine gate_callee (f := 77) rfl ?_); refine gl 10 Try.func77 #[.int .i64 (l0.length : Int), .int .i64 1, .int .i64 400] ?_; (with_reducible refine (impl_within.calls (l0.length : Int) 1 400 false _ A2.out).mono ?_); rintro e w' ⟨rfl, ⟨nd, rfl⟩⟩; refine ⟨_, rfl, ?_⟩)
 go_ret
 exact ⟨eq_, bel⟩
-- shrunk

/-! ### impl_State_step: function 110 -/
def impl_State_step.l0 : Nat → Int → List (S97) → Int → Int → Option (Int)
 | 0, _, _, _, _ => none
 | k + 1, x1, x8, x9, x10 => if x10 < x9 then (if 0 ≤ x10 then (if x10 < (x8.length : Int) then (if ((rd_T97 x8 x10).f0) = (wrap64 (x1)) then (some ((rd_T97 x8 x10).f1)) else (impl_State_step.l0 k x1 x8 x9 (wrap64 (x10 + 1)))) else (none)) else (none)) else (some (-1))
def impl_State_step.f (k : Nat) (a0_0 : Bool) (l0_1 : List (S97)) (a1 : Int) : Option (Int) := impl_State_step.l0 k a1 l0_1 (l0_1.length : Int) 0
theorem impl_State_step.calls (k : Nat) (a0_0 : Bool) (A0_1 : Option Addr) (c0_1 : Nat) (l0_1 : List (S97)) (a1 : Int) (r : Int) (w : World) (hr0_1 : Kd.C k97 w A0_1 l0_1.length l0_1) (hc0_1 : l0_1.length ≤ c0_1) (h : impl_State_step.f k a0_0 l0_1 a1 = some r) :
  Calls Try.prog 110 #[.agg #[.bool a0_0, .slice A0_1 l0_1.length c0_1], .int .u8 a1] w fun e w' => e = .returned (.int .i64 r) ∧ Below w.heap.size w w' := by
 have hu95 := Try.underlying95; have hu97 := Try.underlying97; have HR0_1 := am hr0_1; have HC0_1 := am hc0_1; clear hr0_1 hc0_1; have HB := am (Below.refl w.heap.size w)
 have H := h; unfold impl_State_step.f at H
 clear h
 have H' := am H
 clear H; go_enter Try.func110, Try.ntmps110
 go_wp2_with ((with_reducible refine gate_dst (N := 2) rfl ?_); refine bx 2 (cs := #[.bool a0_0, .slice A0_1 l0_1.length c0_1]) (t := 95) ?_; intro gb598 hg w3 hbox hb; have BK598 := am (hbox); have GW598 := am ((b17_ : w.heap.size ≤ gb598)); have GE598 := am ((b17_ : w.heap.size ≤ gb598)); replace HB := am (below_step bel hb); clear hb hbox hg; have ⟨hcz4_0, hcz4_1, hfz4_0, hfz4_1⟩ := b2c BK598.out)
 go_loopg [10] k (fun kq v10 w' => ∃ (x10_1 : Int), v10 = .int .i64 x10_1 ∧ Aside0 (impl_State_step.l0 kq a1 l0_1 (l0_1.length : Int) x10_1 = some r) ∧ Aside0 (kq ≤ k) ∧ Aside0 (w'.heap[gb598]? = some (.cells #[.bool a0_0, (.slice A0_1 l0_1.length c0_1)] 95 (0, 0))) ∧ Aside0 (Below w.heap.size w w'))
 case atStart => exact ⟨(0), sq, H', ⟨Nat.le_refl _⟩, ⟨bq BK598.out⟩, ⟨bel1 GE598.out⟩⟩
 case round =>
  clear H'; clear hcz4_0 hcz4_1 hfz4_0 hfz4_1; obtain ⟨x10_1, rfl, HA, HK1, BK598, HB⟩ := hrel
  cases gk with
  | zero => exact absurd HA.out (by simp [impl_State_step.l0])
  | succ k1 =>
   have H := HA.out; clear HA; simp only [impl_State_step.l0] at H
   by_cases c5 : x10_1 < (l0_1.length : Int)
   ·rw [if_pos c5] at H; have c5b0 := decide_eq_true c5; clear c5
    replace H := it H; obtain ⟨c6b0, H⟩ := H; replace H := it H; obtain ⟨c7b0, H⟩ := H
    by_cases c8 : ((rd_T97 l0_1 x10_1).f0) = (wrap64 (a1))
    ·rw [if_pos c8] at H
     have c8b0 : (((rd_T97 l0_1 x10_1).f0) == (wrap64 (a1))) = true := beq_iff_eq.mpr c8
     have c8b1 : (((rd_T97 l0_1 x10_1).f0) != (wrap64 (a1))) = false := bne_eq_false_iff_eq.mpr c8
     clear c8; obtain rfl := Option.some.inj H
     have p599 : 0 ≤ (x10_1 : Int) := of_decide_eq_true ad
     have q599 : x10_1 < (l0_1.length : Int) := of_decide_eq_true ad
     obtain ⟨ad599, e599, hx599_0, hx599_1⟩ := at_T97 HR0_1.out x10_1 p599 q599; cases e599; replace hx599_0 := kp HB.out hx599_0; replace hx599_1 := kp HB.out hx599_1; replace p599 := eq_true p599; replace q599 := eq_true q599
     go_wp2_with ((with_reducible refine gate_dst (N := 6) rfl ?_); refine bx 6 (cs := #[.int .i64 0, .int .i64 0]) (t := 97) ?_; intro gb600 hg w9 hbox hb; have BK600 := am (hbox); have GW600 := am ((b111_ : w.heap.size ≤ gb600)); have GE600 := am ((b111_ : w.heap.size ≤ gb600)); replace HB := am (below_step (bel1 GE598.out) hb); have NB598_600 := am ((b97_ : gb598 ≠ gb600)); have NB600_598 := am ((b98_ : gb600 ≠ gb598)); replace BK598 := am (blk_below (bq BK598.out) hb); clear hb hbox hg; have hnb10 := NB600_598.out; have hnc10 := NB598_600.out; have ⟨hcz11_0, hcz11_1, hfz11_0, hfz11_1⟩ := b2c BK600.out)
     go_ret
     exact ⟨eq_, bel2 GE598.out GE600.out⟩
    rw [if_neg c8] at H
    have c8b0 : (((rd_T97 l0_1 x10_1).f0) == (wrap64 (a1))) = false := beq_eq_false_iff_ne.mpr c8
    have c8b1 : (((rd_T97 l0_1 x10_1).f0) != (wrap64 (a1))) = true := bne_iff_ne.mpr c8
    have H' := am H
    clear H
    have p599 : 0 ≤ (x10_1 : Int) := of_decide_eq_true ad
    have q599 : x10_1 < (l0_1.length : Int) := of_decide_eq_true ad
    obtain ⟨ad599, e599, hx599_0, hx599_1⟩ := at_T97 HR0_1.out x10_1 p599 q599; cases e599; replace hx599_0 := kp HB.out hx599_0; replace hx599_1 := kp HB.out hx599_1; replace p599 := eq_true p599; replace q599 := eq_true q599
    go_wp2_with ((with_reducible refine gate_dst (N := 6) rfl ?_); refine bx 6 (cs := #[.int .i64 0, .int .i64 0]) (t := 97) ?_; intro gb600 hg w12 hbox hb; have BK600 := am (hbox); have GW600 := am ((b111_ : w.heap.size ≤ gb600)); have GE600 := am ((b111_ : w.heap.size ≤ gb600)); replace HB := am (below_step (bel1 GE598.out) hb); have NB598_600 := am ((b97_ : gb598 ≠ gb600)); have NB600_598 := am ((b98_ : gb600 ≠ gb598)); replace BK598 := am (blk_below (bq BK598.out) hb); clear hb hbox hg; have hnb13 := NB600_598.out; have hnc13 := NB598_600.out; have ⟨hcz14_0, hcz14_1, hfz14_0, hfz14_1⟩ := b2c BK600.out)
    go_roundg k1
    case measure => have := HK1.out; omega
    case rel => exact ⟨(wrap64 (x10_1 + 1)), sq, H', ⟨b68_⟩, ⟨by (with_reducible repeat (fail)); refine blk_far ?_ NB598_600.out _; (with_reducible repeat (fail)); refine blk_far ?_ NB598_600.out _; (with_reducible repeat (fail)); exact BK598.out⟩, ⟨bel2 GE598.out GE600.out⟩⟩
   rw [if_neg c5] at H; have c5b0 := decide_eq_false c5; clear c5; obtain rfl := Option.some.inj H; go_wp2; go_ret
   exact ⟨eq_, bel1 GE598.out⟩

/-! ### impl_follow: function 79 -/
def impl_follow.l0 : Nat → List (S95) → ByteArray → Int → Int → Int → Option (Int)
 | 0, _, _, _, _, _ => none
 | k + 1, x0, x1, x5, x8, x9 => if x9 < x8 then (if 0 ≤ x5 then (if x5 < (x0.length : Int) then (if 0 ≤ x9 then (if x9 < (x1.size : Int) then ((impl_State_step.f k ((rd_T95 x0 x5).f0) ((rd_T95 x0 x5).f1) (bt x1 x9)).bind fun t602 => (if t602 < 0 then (some (-1)) else (impl_follow.l0 k x0 x1 t602 x8 (wrap64 (x9 + 1))))) else (none)) else (none)) else (none)) else (none)) else (some x5)
def impl_follow.f (k : Nat) (l0 : List (S95)) (a1 : ByteArray) : Option (Int) := impl_follow.l0 k l0 a1 0 (a1.size : Int) 0
def impl_follow.T5 : Bool × List (List Nat × List Nat) := (true, [([], []), ([], []), ([0, 1], [0, 1]), ([2], [2]), ([], []), ([], []), ([4, 5], [4, 5]), ([3, 6], [3, 6]), ([7, 7, 0, 1, 2, 3, 4, 5, 6, 7], [1, 7])])
def impl_follow.B5 : List Nat := [0, 0, 3, 7, 0, 0, 48, 127, 255]
theorem impl_follow.tab5 : rtab .any (opsOf Try.f79 5) = impl_follow.T5 := by kernel_rfl
theorem impl_follow.bits5 : waitsOk impl_follow.T5.2 impl_follow.B5 = true := by kernel_rfl
theorem impl_follow.calls (k : Nat) (A0 : Option Addr) (c0 : Nat) (l0 : List (S95)) (a1 : ByteArray) (r : Int) (w : World) (hr0 : Kd.C k95 w A0 l0.length l0) (hc0 : l0.length ≤ c0) (h : impl_follow.f k l0 a1 = some r) :
  Calls Try.prog 79 #[.slice A0 l0.length c0, .string a1] w fun e w' => e = .returned (.int .i64 r) ∧ Below w.heap.size w w' := by
 have hu95 := Try.underlying95; have HR0 := am hr0; have HC0 := am hc0; clear hr0 hc0; have HB := am (Below.refl w.heap.size w)
 have H := h; unfold impl_follow.f at H
 clear h
 have H' := am H
 clear H; go_enter Try.func79, Try.ntmps79; go_wp2
 go_loopg [5, 9] k (fun kq v5 v9 w' => ∃ (x5_1 : Int) (x9_1 : Int), v5 = .int .i64 x5_1 ∧ v9 = .int .i64 x9_1 ∧ Aside0 (impl_follow.l0 kq l0 a1 x5_1 (a1.size : Int) x9_1 = some r) ∧ Aside0 (kq ≤ k) ∧ Aside0 (Below w.heap.size w w'))
 case atStart => exact ⟨(0), (0), sq, sq, H', ⟨Nat.le_refl _⟩, ⟨bel⟩⟩
 case round =>
  clear H'; obtain ⟨x5_1, x9_1, rfl, rfl, HA, HK1, HB⟩ := hrel
  cases gk with
  | zero => exact absurd HA.out (by simp [impl_follow.l0])
  | succ k1 =>
   have H := HA.out; clear HA; simp only [impl_follow.l0] at H
   by_cases c3 : x9_1 < (a1.size : Int)
   ·rw [if_pos c3] at H; have c3b0 := decide_eq_true c3; clear c3
    replace H := it H; obtain ⟨c4b0, H⟩ := H; replace H := it H; obtain ⟨c5b0, H⟩ := H; replace H := it H; obtain ⟨c6b0, H⟩ := H
    replace H := it H; obtain ⟨c7b0, H⟩ := H; replace H := bs H; obtain ⟨t602, A90, H⟩ := H; have A9 := Aside0.mk A90; clear A90
    by_cases c10 : t602 < 0
    ·rw [if_pos c10] at H; have c10b0 := decide_eq_true c10; clear c10; obtain rfl := Option.some.inj H
     try go_wp2
     replace HB := am (below_drew1 HB.out)
     have p601 : 0 ≤ (x5_1 : Int) := of_decide_eq_true ad
     have q601 : x5_1 < (l0.length : Int) := of_decide_eq_true ad
     obtain ⟨ad601, A601_1, c601_1, e601, hx601_0, hx601_1, hl601_1, hi601_1⟩ := at_T95 HR0.out x5_1 p601 q601; have hw601_1 := hx601_1; have hw601_0 := hx601_0; cases e601; replace hx601_0 := kp HB.out hx601_0; replace hx601_1 := kp HB.out hx601_1; have HR601_1 := am hi601_1; have HC601_1 := am hl601_1; clear hi601_1 hl601_1; replace p601 := eq_true p601; replace q601 := eq_true q601
     have p8 : 0 ≤ (x9_1 : Int) := of_decide_eq_true ad
     have q8 : x9_1 < (a1.size : Int) := of_decide_eq_true ad
     have hx8 := bt_at a1 x9_1; replace p8 := eq_true p8; replace q8 := eq_true q8
     refine st (n := 9) (S := fun w' => w'.cell? (ad601.add ((x5_1).toNat * 2)) = some (.bool ((rd_T95 l0 x5_1).f0)) ∧ w'.cell? ⟨(ad601.add ((x5_1).toNat * 2)).block, (ad601.add ((x5_1).toNat * 2)).off + 1, none⟩ = some (.slice A601_1 ((rd_T95 l0 x5_1).f1).length c601_1)) (ds := []) ⟨(kp HB.out hw601_0), (kp HB.out hw601_1)⟩ (fun hHeld => ?_); refine with_tabW impl_follow.tab5 impl_follow.bits5 (fun HT_ HW_ => ?_)
     generalize wr.drew = w11 at HB HR601_1 hx601_0 hx601_1 hHeld ⊢; refine pu 0 12 ?_; refine pu 1 13 ?_; refine pu 2 14 ?_; refine pu 4 16 ?_; refine pu 5 17 ?_; refine tk2 3 15 hHeld ?_; refine tk2 6 18 hHeld ?_; refine on1 7 19 (fun K hK => ?_)
     refine go1 Try.func110 #[.agg #[.bool ((rd_T95 l0 x5_1).f0), .slice A601_1 ((rd_T95 l0 x5_1).f1).length c601_1], .int .u8 (bt a1 x9_1)] ?_
     with_reducible refine (impl_State_step.calls k1 ((rd_T95 l0 x5_1).f0) _ _ ((rd_T95 l0 x5_1).f1) (bt a1 x9_1) t602 _ ?side1 ?side2 A9.out).mono ?_
     (case side1 => exact cq (Kd.C_below HR601_1.out HB.out)); (case side2 => exact HC601_1.out)
     rintro e w12 ⟨rfl, hb⟩; refine ⟨_, rfl, ?_⟩; replace HB := am (below_step bel hb); clear hb; refine hK.out _ _ ⟨(kp HB.out hw601_0), (kp HB.out hw601_1)⟩ (fun hHeld => ?_); clear hK K; refine nm 19 ?_; refine pu 8 5 ?_
     refine done_ (done_of HT_.out (by kernel_rfl)) ?_
     try go_wp2
     go_ret
     exact ⟨eq_, bel⟩
    rw [if_neg c10] at H; have c10b0 := decide_eq_false c10; clear c10
    have H' := am H
    clear H
    try go_wp2
    replace HB := am (below_drew1 HB.out)
    have p601 : 0 ≤ (x5_1 : Int) := of_decide_eq_true ad
    have q601 : x5_1 < (l0.length : Int) := of_decide_eq_true ad
    obtain ⟨ad601, A601_1, c601_1, e601, hx601_0, hx601_1, hl601_1, hi601_1⟩ := at_T95 HR0.out x5_1 p601 q601; have hw601_1 := hx601_1; have hw601_0 := hx601_0; cases e601; replace hx601_0 := kp HB.out hx601_0; replace hx601_1 := kp HB.out hx601_1; have HR601_1 := am hi601_1; have HC601_1 := am hl601_1; clear hi601_1 hl601_1; replace p601 := eq_true p601; replace q601 := eq_true q601
    have p8 : 0 ≤ (x9_1 : Int) := of_decide_eq_true ad
    have q8 : x9_1 < (a1.size : Int) := of_decide_eq_true ad
    have hx8 := bt_at a1 x9_1; replace p8 := eq_true p8; replace q8 := eq_true q8
    refine st (n := 9) (S := fun w' => w'.cell? (ad601.add ((x5_1).toNat * 2)) = some (.bool ((rd_T95 l0 x5_1).f0)) ∧ w'.cell? ⟨(ad601.add ((x5_1).toNat * 2)).block, (ad601.add ((x5_1).toNat * 2)).off + 1, none⟩ = some (.slice A601_1 ((rd_T95 l0 x5_1).f1).length c601_1)) (ds := []) ⟨(kp HB.out hw601_0), (kp HB.out hw601_1)⟩ (fun hHeld => ?_); refine with_tabW impl_follow.tab5 impl_follow.bits5 (fun HT_ HW_ => ?_)
    generalize wr.drew = w13 at HB HR601_1 hx601_0 hx601_1 hHeld ⊢; refine pu 0 12 ?_; refine pu 1 13 ?_; refine pu 2 14 ?_; refine pu 4 16 ?_; refine pu 5 17 ?_; refine tk2 3 15 hHeld ?_; refine tk2 6 18 hHeld ?_; refine on1 7 19 (fun K hK => ?_)
    refine go1 Try.func110 #[.agg #[.bool ((rd_T95 l0 x5_1).f0), .slice A601_1 ((rd_T95 l0 x5_1).f1).length c601_1], .int .u8 (bt a1 x9_1)] ?_
    with_reducible refine (impl_State_step.calls k1 ((rd_T95 l0 x5_1).f0) _ _ ((rd_T95 l0 x5_1).f1) (bt a1 x9_1) t602 _ ?side1 ?side2 A9.out).mono ?_
    (case side1 => exact cq (Kd.C_below HR601_1.out HB.out)); (case side2 => exact HC601_1.out)
    rintro e w14 ⟨rfl, hb⟩; refine ⟨_, rfl, ?_⟩; replace HB := am (below_step bel hb); clear hb; refine hK.out _ _ ⟨(kp HB.out hw601_0), (kp HB.out hw601_1)⟩ (fun hHeld => ?_); clear hK K; refine nm 19 ?_; refine pu 8 5 ?_
    refine done_ (done_of HT_.out (by kernel_rfl)) ?_
    try go_wp2
    go_roundg k1
    case measure => have := HK1.out; omega
    case rel => exact ⟨(t602), (wrap64 (x9_1 + 1)), sq, sq, H', ⟨b68_⟩, ⟨bel⟩⟩
   rw [if_neg c3] at H; have c3b0 := decide_eq_false c3; clear c3; obtain rfl := Option.some.inj H; go_wp2; go_ret
   exact ⟨eq_, bel⟩

/-! ### impl_MachineKnows: function 31 -/
def impl_MachineKnows.f (k : Nat) (l0 : List (S95)) (a1 : ByteArray) : Option (Bool) := (impl_MachineOk.f k l0).bind fun t603 => (if t603 = true then ((impl_follow.f k l0 a1).bind fun t604 => (if t604 ≥ 0 then (if 0 ≤ t604 then (if t604 < (l0.length : Int) then (some ((rd_T95 l0 t604).f0)) else (none)) else (none)) else (some false))) else (some false))
theorem impl_MachineKnows.calls (k : Nat) (A0 : Option Addr) (c0 : Nat) (l0 : List (S95)) (a1 : ByteArray) (r : Bool) (w : World) (hr0 : Kd.C k95 w A0 l0.length l0) (hc0 : l0.length ≤ c0) (h : impl_MachineKnows.f k l0 a1 = some r) :
  Calls Try.prog 31 #[.slice A0 l0.length c0, .string a1] w fun e w' => e = .returned (.bool r) ∧ Below w.heap.size w w' := by
 have HR0 := am hr0; have HC0 := am hc0; clear hr0 hc0; have HB := am (Below.refl w.heap.size w)
 have H := h; unfold impl_MachineKnows.f at H
 clear h; replace H := bs H; obtain ⟨t603, A30, H⟩ := H; have A3 := Aside0.mk A30; clear A30
 by_cases c4 : t603 = true
 ·subst c4
  rw [if_pos rfl] at H
  replace H := bs H; obtain ⟨t604, A50, H⟩ := H; have A5 := Aside0.mk A50; clear A50
  by_cases c6 : t604 ≥ 0
  ·rw [if_pos c6] at H; have c6b0 := decide_eq_true c6; clear c6
   replace H := it H; obtain ⟨c7b0, H⟩ := H
   replace H := it H; obtain ⟨c8b0, H⟩ := H; obtain rfl := Option.some.inj H; go_enter Try.func31, Try.ntmps31
   go_wp2_with (first | ((with_reducible refine gate_callee (f := 69) rfl ?_); refine gl 7 Try.func69 #[.slice A0 l0.length c0] ?_; (with_reducible refine (impl_MachineOk.calls k _ _ l0 true _ ?side1 ?side2 A3.out).mono ?_); (case side1 => repeat (exact HR0.out)); (case side2 => exact HC0.out); rintro e w9 ⟨rfl, hb⟩; refine ⟨_, rfl, ?_⟩; replace HB := am (below_step bel hb); clear hb) | ((with_reducible refine gate_callee (f := 79) rfl ?_); refine gl 11 Try.func79 #[.slice A0 l0.length c0, .string a1] ?_; (with_reducible refine (impl_follow.calls k _ _ l0 a1 t604 _ ?side1 ?side2 A5.out).mono ?_); (case side1 => exact cq (Kd.C_below HR0.out HB.out)); (case side2 => exact HC0.out); rintro e w10 ⟨rfl, hb⟩; refine ⟨_, rfl, ?_⟩; replace HB := am (below_step bel hb); clear hb; have p605 : 0 ≤ (t604 : Int) := of_decide_eq_true ad; have q605 : t604 < (l0.length : Int) := of_decide_eq_true ad; obtain ⟨ad605, A605_1, c605_1, e605, hx605_0, hx605_1, hl605_1, hi605_1⟩ := at_T95 HR0.out t604 p605 q605; cases e605; replace hx605_0 := kp HB.out hx605_0; replace hx605_1 := kp HB.out hx605_1; have HR605_1 := am hi605_1; have HC605_1 := am hl605_1; clear hi605_1 hl605_1; replace p605 := eq_true p605; replace q605 := eq_true q605))
   go_ret
   exact ⟨eq_, bel⟩
  rw [if_neg c6] at H; have c6b0 := decide_eq_false c6; clear c6; obtain rfl := Option.some.inj H; go_enter Try.func31, Try.ntmps31
  go_wp2_with (first | ((with_reducible refine gate_callee (f := 69) rfl ?_); refine gl 7 Try.func69 #[.slice A0 l0.length c0] ?_; (with_reducible refine (impl_MachineOk.calls k _ _ l0 true _ ?side1 ?side2 A3.out).mono ?_); (case side1 => repeat (exact HR0.out)); (case side2 => exact HC0.out); rintro e w11 ⟨rfl, hb⟩; refine ⟨_, rfl, ?_⟩; replace HB := am (below_step bel hb); clear hb) | ((with_reducible refine gate_callee (f := 79) rfl ?_); refine gl 11 Try.func79 #[.slice A0 l0.length c0, .string a1] ?_; (with_reducible refine (impl_follow.calls k _ _ l0 a1 t604 _ ?side1 ?side2 A5.out).mono ?_); (case side1 => exact cq (Kd.C_below HR0.out HB.out)); (case side2 => exact HC0.out); rintro e w12 ⟨rfl, hb⟩; refine ⟨_, rfl, ?_⟩; replace HB := am (below_step bel hb); clear hb))
  go_ret
  exact ⟨eq_, bel⟩
 replace c4 := Bool.eq_false_iff.mpr c4; subst c4
 rw [if_neg Bool.false_ne_true] at H
 obtain rfl := Option.some.inj H; go_enter Try.func31, Try.ntmps31
 go_wp2_with ((with_reducible refine gate_callee (f := 69) rfl ?_); refine gl 7 Try.func69 #[.slice A0 l0.length c0] ?_; (with_reducible refine (impl_MachineOk.calls k _ _ l0 false _ ?side1 ?side2 A3.out).mono ?_); (case side1 => repeat (exact HR0.out)); (case side2 => exact HC0.out); rintro e w13 ⟨rfl, hb⟩; refine ⟨_, rfl, ?_⟩; replace HB := am (below_step bel hb); clear hb)
 go_ret
 exact ⟨eq_, bel⟩

/-! ### impl_lower: function 109 -/
def impl_lower.l0 : Nat → ByteArray → Int → Int → Option (Bool)
 | 0, _, _, _ => none
 | k + 1, x0, x5, x6 => if x6 < x5 then (if 0 ≤ x6 then (if x6 < (x0.size : Int) then (if (bt x0 x6) < 97 then (some false) else (if (bt x0 x6) > 122 then (some false) else (impl_lower.l0 k x0 x5 (wrap64 (x6 + 1))))) else (none)) else (none)) else (some true)
def impl_lower.f (k : Nat) (a0 : ByteArray) : Option (Bool) := impl_lower.l0 k a0 (a0.size : Int) 0
theorem impl_lower.calls (k : Nat) (a0 : ByteArray) (r : Bool) (w : World) (h : impl_lower.f k a0 = some r) :
  Calls Try.prog 109 #[.string a0] w fun e w' => e = .returned (.bool r) ∧ Drawn0 w w' := by
 have H := h; unfold impl_lower.f at H
 clear h
 have H' := am H
 clear H; go_enter Try.func109, Try.ntmps109; go_wp2
 go_loopg [6] k (fun kq v6 w' => ∃ (x6_1 : Int), v6 = .int .i64 x6_1 ∧ Aside0 (impl_lower.l0 kq a0 (a0.size : Int) x6_1 = some r) ∧ Aside0 (kq ≤ k) ∧ Drawn0 w w')
 case atStart => exact ⟨(0), sq, H', ⟨Nat.le_refl _⟩, dr⟩
 case round =>
  clear H'; obtain ⟨x6_1, rfl, HA, HK1, ⟨m1, rfl⟩⟩ := hrel
  cases gk with
  | zero => exact absurd HA.out (by simp [impl_lower.l0])
  | succ k1 =>
   have H := HA.out; clear HA; simp only [impl_lower.l0] at H
   by_cases c2 : x6_1 < (a0.size : Int)
   ·rw [if_pos c2] at H; have c2b0 := decide_eq_true c2; clear c2
    replace H := it H; obtain ⟨c3b0, H⟩ := H; replace H := it H; obtain ⟨c4b0, H⟩ := H
    by_cases c6 : (bt a0 x6_1) < 97
    ·rw [if_pos c6] at H; have c6b0 := decide_eq_true c6; clear c6; obtain rfl := Option.some.inj H
     have p5 : 0 ≤ (x6_1 : Int) := of_decide_eq_true ad
     have q5 : x6_1 < (a0.size : Int) := of_decide_eq_true ad
     have hx5 := bt_at a0 x6_1; replace p5 := eq_true p5; replace q5 := eq_true q5; go_wp2; go_ret
     exact ⟨sq, dr⟩
    rw [if_neg c6] at H; have c6b0 := decide_eq_false c6; clear c6
    by_cases c8 : (bt a0 x6_1) > 122
    ·rw [if_pos c8] at H; have c8b0 := decide_eq_true c8; clear c8; obtain rfl := Option.some.inj H
     have p5 : 0 ≤ (x6_1 : Int) := of_decide_eq_true ad
     have q5 : x6_1 < (a0.size : Int) := of_decide_eq_true ad
     have hx5 := bt_at a0 x6_1; replace p5 := eq_true p5; replace q5 := eq_true q5
     have p7 : 0 ≤ (x6_1 : Int) := of_decide_eq_true ad
     have q7 : x6_1 < (a0.size : Int) := of_decide_eq_true ad
     have hx7 := bt_at a0 x6_1; replace p7 := eq_true p7; replace q7 := eq_true q7; go_wp2; go_ret
     exact ⟨sq, dr⟩
    rw [if_neg c8] at H; have c8b0 := decide_eq_false c8; clear c8
    have H' := am H
    clear H
    have p5 : 0 ≤ (x6_1 : Int) := of_decide_eq_true ad
    have q5 : x6_1 < (a0.size : Int) := of_decide_eq_true ad
    have hx5 := bt_at a0 x6_1; replace p5 := eq_true p5; replace q5 := eq_true q5
    have p7 : 0 ≤ (x6_1 : Int) := of_decide_eq_true ad
    have q7 : x6_1 < (a0.size : Int) := of_decide_eq_true ad
    have hx7 := bt_at a0 x6_1; replace p7 := eq_true p7; replace q7 := eq_true q7; go_wp2
    go_roundg k1
    case measure => have := HK1.out; omega
    case rel => exact ⟨(wrap64 (x6_1 + 1)), sq, H', ⟨b68_⟩, dr⟩
   rw [if_neg c2] at H; have c2b0 := decide_eq_false c2; clear c2; obtain rfl := Option.some.inj H; go_wp2; go_ret
   exact ⟨sq, dr⟩

/-! ### impl_WordOk: function 78 -/
def impl_WordOk.f (k : Nat) (a0 : ByteArray) : Option (Bool) := (impl_within.f (a0.size : Int) 1 12).bind fun t606 => (if t606 = true then ((impl_lower.f k a0).bind fun t607 => (some t607)) else (some false))
theorem impl_WordOk.calls (k : Nat) (a0 : ByteArray) (r : Bool) (w : World) (h : impl_WordOk.f k a0 = some r) :
  Calls Try.prog 78 #[.string a0] w fun e w' => e = .returned (.bool r) ∧ Drawn0 w w' := by
 have H := h; unfold impl_WordOk.f at H
 clear h; replace H := bs H; obtain ⟨t606, A20, H⟩ := H; have A2 := Aside0.mk A20; clear A20
 by_cases c3 : t606 = true
 ·subst c3
  rw [if_pos rfl] at H
  replace H := bs H; obtain ⟨t607, A40, H⟩ := H; have A4 := Aside0.mk A40; clear A40; obtain rfl := Option.some.inj H; go_enter Try.func78, Try.ntmps78
  go_wp2_with (first | ((with_reducible refine gate_callee (f := 77) rfl ?_); refine gl 5 Try.func77 #[.int .i64 (a0.size : Int), .int .i64 1, .int .i64 12] ?_; (with_reducible refine (impl_within.calls (a0.size : Int) 1 12 true _ A2.out).mono ?_); rintro e w' ⟨rfl, ⟨nd, rfl⟩⟩; refine ⟨_, rfl, ?_⟩) | (go_at_call 109; (with_reducible refine (impl_lower.calls k a0 t607 _ A4.out).mono ?_); rintro e w' ⟨rfl, ⟨nd, rfl⟩⟩))
  go_ret
  exact ⟨sq, dr⟩
 replace c3 := Bool.eq_false_iff.mpr c3; subst c3
 rw [if_neg Bool.false_ne_true] at H
 obtain rfl := Option.some.inj H; go_enter Try.func78, Try.ntmps78
 go_wp2_with ((with_reducible refine gate_callee (f := 77) rfl ?_); refine gl 5 Try.func77 #[.int .i64 (a0.size : Int), .int .i64 1, .int .i64 12] ?_; (with_reducible refine (impl_within.calls (a0.size : Int) 1 12 false _ A2.out).mono ?_); rintro e w' ⟨rfl, ⟨nd, rfl⟩⟩; refine ⟨_, rfl, ?_⟩)
 go_ret
 exact ⟨sq, dr⟩

/-! ### impl_sorted: function 106 -/
/-- A list in ascending order, each once. -/
def impl_sorted.f (l0 : List ByteArray) : Option (List ByteArray) := if l0.length ≤ 1000000000 then some (M.setL l0) else none
def impl_sorted.ba (l : List UInt8) : ByteArray := ⟨l.toArray⟩
theorem impl_sorted.encs_ba (ss : List (List UInt8)) : encs Value.string (ss.map impl_sorted.ba) = ss.map encStr := by
 unfold encs
 rw [List.map_map]
 rfl
theorem impl_sorted.own {W : World} {base : Nat} {v : Value} {ss : List (List UInt8)} (h : Kd.R Kd.string 9 W base (fun _ => True) v (ss.map impl_sorted.ba)) : W.ownsRow base 9 1 v ss.length (ss.map encStr) := by
 have := Kd.own_of_R h
 rw [impl_sorted.encs_ba, List.length_map] at this
 exact this
theorem impl_sorted.row {W : World} {base : Nat} {v : Value} {ss : List (List UInt8)} (h : W.ownsRow base 9 1 v ss.length (ss.map encStr)) : Kd.R Kd.string 9 W base (fun _ => True) v (ss.map impl_sorted.ba) :=
 Kd.R_of_own (by rw [impl_sorted.encs_ba, List.length_map]; exact h) (fun _ _ => trivial)
theorem impl_sorted.holds {w : World} {base : Nat} {g n cap : Nat} {zs : List (List UInt8)} (h : w.ownsRow base 9 1 (.slice (some ⟨g, 0, none⟩) n cap) n (zs.map encStr)) :
  base ≤ g ∧ g < w.heap.size ∧ n ≤ cap ∧ zs.length = n ∧ Sort.Holds encStr w g 0 zs.toArray := by
 obtain ⟨g', cap', e, h1, h2, h3, _, h5, h6⟩ := Go.Lib.holds_of_ownsRow h (by intro e; cases e)
 cases e
 exact ⟨h1, h2, h3, h5, h6⟩
set_option maxHeartbeats 1000000 in
theorem impl_sorted.sort {w0 W : World} {base : Nat} {v : Value} {ss : List (List UInt8)} (h : Kd.R Kd.string 9 W base (fun _ => True) v (ss.map impl_sorted.ba)) (hB : Below base w0 W) (hbase : base ≤ W.heap.size) (hl : ss.length ≤ 1000000000) :
  Calls Try.prog 127 #[v] W fun e w' => e = .returned (.tuple #[]) ∧ Kd.R Kd.string 9 w' base (fun _ => True) v ((ss.mergeSort M.leU).map impl_sorted.ba) ∧ Below base w0 w' ∧ base ≤ w'.heap.size := by
 have ho := impl_sorted.own h
 rcases ho.2 with ⟨rfl, h0⟩ | ⟨g, cap, cur, rfl, hb, hg, h1, h2, h3, h4⟩
 ·have e0 : ss = [] := List.length_eq_zero_iff.1 h0
  subst e0
  have := Any.slices_Sort_string_none Try.laySort none 0 W
  change Calls Try.prog 127 _ _ _ at this
  refine this.mono ?_
  rintro e w' ⟨he, rfl⟩
  exact ⟨he, by simpa using h, hB, hbase⟩
 ·obtain ⟨hbg, hgl, hc, _, hH⟩ := impl_sorted.holds ho
  have := Any.slices_Sort_string Try.laySort g 0 cap ss W hH hgl (by omega)
  change Calls Try.prog 127 _ _ _ at this
  refine this.mono ?_
  rintro e w' ⟨he, n, os, rfl⟩
  have hl2 : (ss.mergeSort M.leU).length = ss.length := List.length_mergeSort ss
  have hs := ownsRow_sorted (n := n) (os := os) (ts := ss.mergeSort M.leU) hl2 hb hg h1 h2 h3; rw [← hl2] at hs
  refine ⟨he, ?_, ?_, ?_⟩
  ·have := impl_sorted.row hs
   rw [hl2] at this
   exact this
  ·exact hB.grown (grownBy_sorted _) hbase (fun j hj => by cases hj; exact hbg)
  ·exact Nat.le_trans hbase (grownBy_sorted (w := W) (g := g) (n := n) (os := os) (ss.mergeSort M.leU).toArray).size
set_option maxHeartbeats 1000000 in
theorem impl_sorted.compact {w0 W : World} {base : Nat} {v : Value} {ss : List (List UInt8)} (h : Kd.R Kd.string 9 W base (fun _ => True) v (ss.map impl_sorted.ba)) (hB : Below base w0 W) (hbase : base ≤ W.heap.size) (hl : ss.length ≤ 1000000000) :
  Calls Try.prog 128 #[v] W fun e w' => ∃ A c, e = .returned (.slice A (Go.Lib.compact ss).length c) ∧ Kd.R Kd.string 9 w' base (fun _ => True) (.slice A (Go.Lib.compact ss).length c) ((Go.Lib.compact ss).map impl_sorted.ba) ∧ Below base w0 w' ∧ W.grownBy w' v.ownBlock := by
 have ho := impl_sorted.own h
 rcases ho.2 with ⟨rfl, h0⟩ | ⟨g, cap, cur, rfl, hb, hg, h1, h2, h3, h4⟩
 ·have e0 : ss = [] := List.length_eq_zero_iff.1 h0
  subst e0
  have := Any.slices_Compact_string_empty Try.layCompact none 0 W
  change Calls Try.prog 128 _ _ _ at this
  refine this.mono ?_
  rintro e w' ⟨he, rfl⟩
  exact ⟨none, 0, he, h, hB, ⟨rfl, rfl, rfl, Nat.le_refl _, fun _ _ _ => rfl⟩⟩
 ·obtain ⟨hbg, hgl, hc, _, hH⟩ := impl_sorted.holds ho
  have := Any.slices_Compact_string Try.layCompact g 0 cap ss W hH (by omega) h1
  change Calls Try.prog 128 _ _ _ at this
  refine this.mono ?_
  rintro e w' ⟨he, q, rfl⟩
  have hle := Go.Lib.compact_length_le ss
  have hc2 := Go.Lib.ownsRow_putRow (q := q) (k := (Go.Lib.compact ss).length) (ys := Go.Lib.compact ss ++ List.replicate (ss.length - (Go.Lib.compact ss).length) []) ho (by simp; omega) (by omega)
  rw [List.take_left] at hc2
  refine ⟨_, _, he, impl_sorted.row hc2, Go.Lib.below_putRow hB hbg, rfl, rfl, rfl, by simp [Sort.putRow, Sort.mapBlock, Sort.ahead], fun k hk hne => ?_⟩
  have : g ≠ k := fun e => hne (by rw [← e]; rfl)
  simp [Sort.putRow, Sort.mapBlock, Sort.ahead, Array.getElem?_modify, this]
theorem impl_sorted.apart {W W1 : World} {base : Nat} {v v9 : Value} {xs : List ByteArray} (h : Kd.R Kd.string 9 W base (fun _ => True) v xs) (h9 : Kd.R Kd.string 9 W1 base (fun _ => True) v9 []) (hn : ∃ b, v9.ownBlock = some b ∧ W.heap.size ≤ b) :
  Kd.R Kd.string 9 W1 base (fun k => some k ≠ v.ownBlock) v9 [] := by
 refine Kd.R_of_own (Kd.own_of_R h9) (fun k hk => ?_)
 obtain ⟨b, hb, hle⟩ := hn; rw [hb] at hk
 cases hk
 intro e
 rcases (Kd.own_of_R h).2 with ⟨rfl, _⟩ | ⟨g, cap, cur, rfl, hbg, hg, _⟩
 ·simp [Value.ownBlock] at e
 ·have e2 : k = g := by simpa [Value.ownBlock] using e
  have := (Array.getElem?_eq_some_iff.1 hg).1
  omega
theorem impl_sorted.ba_of (l : List ByteArray) : (l.map (·.data.toList)).map impl_sorted.ba = l := by
 rw [List.map_map]
 conv => rhs; rw [← List.map_id l]
 exact List.map_congr_left (fun x _ => M.ba_of x)
theorem impl_sorted.compactL {w0 W : World} {base : Nat} {v : Value} {l : List ByteArray} (h : Kd.R Kd.string 9 W base (fun _ => True) v (((l.map (·.data.toList)).mergeSort M.leU).map impl_sorted.ba)) (hB : Below base w0 W) (hbase : base ≤ W.heap.size) (hl : l.length ≤ 1000000000) :
  Calls Try.prog 128 #[v] W fun e w' => ∃ A c, e = .returned (.slice A (M.setL l).length c) ∧ Kd.R Kd.string 9 w' base (fun _ => True) (.slice A (M.setL l).length c) (M.setL l) ∧ Below base w0 w' ∧ W.grownBy w' v.ownBlock := by
 have := impl_sorted.compact (w0 := w0) h hB hbase (by rw [List.length_mergeSort, List.length_map]; exact hl)
 rw [M.sorted_eq, List.length_map, impl_sorted.ba_of] at this
 exact this

set_option maxHeartbeats 4000000 in
set_option maxRecDepth 100000 in
theorem impl_sorted.calls (A0 : Option Addr) (c0 : Nat) (l0 : List ByteArray) (r : List ByteArray) (w : World) (hr0 : Kd.C Kd.string w A0 l0.length l0) (hc0 : l0.length ≤ c0) (h : impl_sorted.f l0 = some r) :
  Calls Try.prog 106 #[.slice A0 l0.length c0] w fun e w' => ∃ v0_ : Value, e = .returned (v0_) ∧ Kd.R Kd.string 9 w' w.heap.size (fun _ => True) v0_ r ∧ Below w.heap.size w w' := by
 unfold impl_sorted.f at h
 split at h
 case isFalse => cases h
 rename_i hsz; obtain rfl := Option.some.inj h; clear h; have hsl := M.setL_length l0; have HR := am hr0; clear hr0; go_enter Try.func106, Try.ntmps106
 go_wp2_with (first
  | ((with_reducible refine gate_dst (N := 4) rfl ?_); refine Kd.R_lit Kd.string w.heap.size 9 ?hg (N := 4) ?hd (xs := ([] : List ByteArray)) (inner := []) (ok := fun _ => True) (okp := fun _ => True) ?hr ?hp (fun _ hk => hk) trivial (Below.refl _ _) (Nat.le_refl _) (by simp) ?_; (case hd => rfl); (case hg => rfl); (case hr => (go_simp; done)); (case hp => exact (Reps.none _ _)); intro v4 w1 ho hb hg_ hnew_; have HO4 := am ho; have HB1 := am hb; clear ho hb hg_ hnew_)
  | ((with_reducible refine gate_builtin (b := .append) (xs := #[.tmp 4, .tmp 5]) rfl ?_); at_builtin; refine Kd.R_append_row Value.string (⟨#[]⟩ : ByteArray) (h1 := fun _ => rfl) (w0 := w) w.heap.size rfl (.tmp 4) (.tmp 5) 27 9 (.string ⟨#[]⟩) 16 rfl Try.underlying27 info9 rfl (by decide) v4 [] l0 A0 l0.length c0 (fun _ => True) rfl rfl (fun _ _ => trivial) HO4.out (Kd.C_below HR.out HB1.out) HB1.out (below_size HB1.out) (by simp; omega) ?_; intro v6 w2 ho hb hg_ hat_; rw [List.nil_append] at ho; have HO6 := am ho; have HB2 := am hb; clear ho hb hg_ hat_ HO4 HB1)
  | (go_at_call 127; refine (impl_sorted.sort (w0 := w) (base := w.heap.size) (ss := l0.map (·.data.toList)) (by rw [impl_sorted.ba_of]; exact HO6.out) HB2.out (below_size HB2.out) (by simpa using hsz)).mono ?_; rintro e w3 ⟨rfl, hR3, hB3, hs3⟩; have HO7 := am hR3; have HB3 := am hB3; clear hR3 hB3 hs3 HO6 HB2)
  | ((with_reducible refine gate_dst (N := 9) rfl ?_); refine Kd.R_lit Kd.string w.heap.size 9 ?hg (N := 9) ?hd (xs := ([] : List ByteArray)) (inner := []) (ok := fun _ => True) (okp := fun _ => True) ?hr ?hp (fun _ hk => hk) trivial HB3.out (below_size HB3.out) (by simp) ?_; (case hd => rfl); (case hg => rfl); (case hr => (go_simp; done)); (case hp => exact (Reps.none _ _)); intro v9 w4 ho hb hg_ hnew_; have HO8 := am (Kd.R_mono (Kd.R_grown HO7.out hg_ (fun _ _ h => by cases h)) (fun _ _ => trivial)); have HO9 := am (impl_sorted.apart HO7.out ho hnew_); have HB4 := am hb; clear ho hb hg_ hnew_ HO7 HB3)
  | (go_at_call 128; refine (impl_sorted.compactL (w0 := w) (base := w.heap.size) HO8.out HB4.out (below_size HB4.out) hsz).mono ?_; rintro e w5 ⟨A5, c5, rfl, hR5, hB5, hg5⟩; have HO5 := am hR5; have HO9' := am (Kd.R_mono (Kd.R_grown HO9.out hg5 (fun _ h => h)) (fun _ _ => trivial)); have HB5 := am hB5; clear hR5 hB5 hg5 HO8 HO9 HB4)
  | ((with_reducible refine gate_builtin (b := .append) (xs := #[.tmp 9, .tmp 11]) rfl ?_); at_builtin; refine Kd.R_append_row Value.string (⟨#[]⟩ : ByteArray) (h1 := fun _ => rfl) (w0 := w) w.heap.size rfl (.tmp 9) (.tmp 11) 27 9 (.string ⟨#[]⟩) 16 rfl Try.underlying27 info9 rfl (by decide) v9 [] (M.setL l0) A5 (M.setL l0).length c5 (fun _ => True) rfl rfl (fun _ _ => trivial) HO9'.out (Kd.R_reads' HO5.out).2.2 HB5.out (below_size HB5.out) (by simp; omega) ?_; intro v12 w6 ho hb hg_ hat_; rw [List.nil_append] at ho; have HO12 := am ho; have HB6 := am hb; clear ho hb hg_ hat_ HO9' HB5))
 go_ret
 exact ⟨v12, rfl, HO12.out, HB6.out⟩
-- shrunk

/-! ### impl_Near: function 70 -/
/-- A text that is one step away is told, if it is a word, and another one. -/
def impl_Near.put (k : Nat) (s : ByteArray) (xs : List ByteArray) (x : ByteArray) : Option (List ByteArray) :=
 if xs.length < 100000 then (if x.toList = s.toList then some xs else (impl_WordOk.f k x).bind fun b => some (if b = true then xs ++ [x] else xs)) else none
def impl_Near.go (k : Nat) (s : ByteArray) : List ByteArray → List ByteArray → Option (List ByteArray)
 | [], xs => some xs
 | x :: l, xs => (impl_Near.put k s xs x).bind fun ys => impl_Near.go k s l ys
def impl_Near.f (k : Nat) (a0 : ByteArray) : Option (List ByteArray) := (impl_WordOk.f k a0).bind fun b => if b = true then (if a0.size ≤ 1000 then ((impl_Near.go k a0 (M.candsFrom a0 0) []).bind fun xs => impl_sorted.f xs) else none) else some []
theorem impl_Near.big {n : Nat} (h : n ≤ 5000) : (9223372036854775807 < n) = False := eq_false (by omega)
theorem impl_Near.w64n {i n : Nat} (h : i ≤ n) (hn : n ≤ 1000) : wrap64 ((i : Int) + 1) = ((i + 1 : Nat) : Int) := M.w64 (by omega) (by omega)
structure impl_Near.St (w W : World) (B1 B3 : Nat) (s : ByteArray) (xs : List ByteArray) : Prop where
 ge1 : w.heap.size ≤ B1
 ge3 : w.heap.size ≤ B3
 ne : B1 ≠ B3
 b1 : W.heap[B1]? = some (.cells #[.string s] 9 (0, 0))
 row : ∃ v, W.heap[B3]? = some (.cells #[v] 27 (0, 0)) ∧ Kd.R Kd.string 9 W w.heap.size (fun k => k ≠ B1 ∧ k ≠ B3) v xs
 below : Below w.heap.size w W
theorem impl_Near.St.drewN {w W : World} {B1 B3 : Nat} {s : ByteArray} {xs : List ByteArray} (h : impl_Near.St w W B1 B3 s xs) (m : Nat) : impl_Near.St w (W.drewN m) B1 B3 s xs :=
 ⟨h.ge1, h.ge3, h.ne, h.b1, by obtain ⟨v, hb, hr⟩ := h.row; exact ⟨v, hb, Kd.R_drewN hr m⟩, pw_below_drewN h.below m⟩
theorem impl_Near.St.drew {w W : World} {B1 B3 : Nat} {s : ByteArray} {xs : List ByteArray} (h : impl_Near.St w W B1 B3 s xs) : impl_Near.St w W.drew B1 B3 s xs :=
 ⟨h.ge1, h.ge3, h.ne, h.b1, by obtain ⟨v, hb, hr⟩ := h.row; exact ⟨v, hb, Kd.R_drew hr⟩, below_drew1 h.below⟩
theorem impl_Near.St.alloc {w W : World} {B1 B3 : Nat} {s : ByteArray} {xs : List ByteArray} (h : impl_Near.St w W B1 B3 s xs) (o : Obj) : impl_Near.St w (W.alloc o) B1 B3 s xs :=
 ⟨h.ge1, h.ge3, h.ne, blk_alloc h.b1 o, by obtain ⟨v, hb, hr⟩ := h.row; exact ⟨v, blk_alloc hb o, Kd.R_alloc hr o⟩, below_alloc h.below o⟩

def impl_Near.T12 : Bool × List (List Nat × List Nat) := (true, [([], []), ([], []), ([], []), ([1, 2], [1, 2]), ([], []), ([3, 4], [3, 4]), ([], []), ([], []), ([6, 7], [6, 7]), ([5, 8], [5, 8]), ([0, 9], [0, 9])])
def impl_Near.B12 : List Nat := [0, 0, 0, 6, 0, 30, 0, 0, 192, 510, 1023]
theorem impl_Near.tab12 : rtab .any (opsOf Try.f70 12) = impl_Near.T12 := by kernel_rfl
theorem impl_Near.bits12 : waitsOk impl_Near.T12.2 impl_Near.B12 = true := by kernel_rfl
def impl_Near.T14 : Bool × List (List Nat × List Nat) := (true, [([], []), ([], []), ([], []), ([1, 2], [1, 2]), ([], []), ([3, 4], [3, 4]), ([], []), ([], []), ([7], [7]), ([6, 8], [6, 8]), ([5, 9], [5, 9]), ([0, 10], [0, 10])])
def impl_Near.B14 : List Nat := [0, 0, 0, 6, 0, 30, 0, 0, 128, 448, 1022, 2047]
theorem impl_Near.tab14 : rtab .any (opsOf Try.f70 14) = impl_Near.T14 := by kernel_rfl
theorem impl_Near.bits14 : waitsOk impl_Near.T14.2 impl_Near.B14 = true := by kernel_rfl
def impl_Near.T16 : Bool × List (List Nat × List Nat) := (true, [([], []), ([], []), ([], []), ([1, 2], [1, 2]), ([], []), ([], []), ([5], [5]), ([4, 6], [4, 6]), ([3, 7], [3, 7]), ([0, 8], [0, 8])])
def impl_Near.B16 : List Nat := [0, 0, 0, 6, 0, 0, 32, 112, 254, 511]
theorem impl_Near.tab16 : rtab .any (opsOf Try.f70 16) = impl_Near.T16 := by kernel_rfl
theorem impl_Near.bits16 : waitsOk impl_Near.T16.2 impl_Near.B16 = true := by kernel_rfl
def impl_Near.T18 : Bool × List (List Nat × List Nat) := (true, [([], []), ([], []), ([], []), ([1, 2], [1, 2]), ([], []), ([], []), ([5], [5]), ([], []), ([7], [7]), ([4, 6, 8], [4, 6, 8]), ([3, 9], [3, 9]), ([], []), ([], []), ([], []), ([13], [13]), ([11, 12, 14], [11, 12, 14]), ([10, 15], [10, 15]), ([], []), ([], []), ([18], [18]), ([17, 19], [17, 19]), ([16, 20], [16, 20]), ([0, 21], [0, 21])])
def impl_Near.B18 : List Nat := [0, 0, 0, 6, 0, 0, 32, 0, 128, 496, 1022, 0, 0, 0, 8192, 30720, 65534, 0, 0, 262144, 917504, 2097150, 4194303]
theorem impl_Near.tab18 : rtab .any (opsOf Try.f70 18) = impl_Near.T18 := by kernel_rfl
theorem impl_Near.bits18 : waitsOk impl_Near.T18.2 impl_Near.B18 = true := by kernel_rfl
set_option maxHeartbeats 1000000 in
set_option maxRecDepth 100000 in
theorem impl_Near.putc (k : Nat) (s x : ByteArray) (xs ys : List ByteArray) (w W : World) (B1 B3 : Nat) (hS : impl_Near.St w W B1 B3 s xs) (h : impl_Near.put k s xs x = some ys) :
  Calls Try.prog 105 #[.string x, .pointer (some ⟨B1, 0, none⟩), .pointer (some ⟨B3, 0, none⟩)] W fun e w' => e = .returned (.tuple #[]) ∧ impl_Near.St w w' B1 B3 s ys := by
 unfold impl_Near.put at h
 split at h
 case isFalse => cases h
 rename_i hlen
 have hcell : W.cell? ⟨B1, 0, none⟩ = some (.string s) := (blk_cell hS.b1 0).trans rfl
 have HS := am hS; clear hS
 by_cases c : x.toList = s.toList
 ·rw [if_pos c] at h; obtain rfl := Option.some.inj h
  have cb : (x.toList == s.toList) = true := by simpa using c
  clear h; go_enter Try.func105, Try.ntmps105; go_wp2
  refine bodyPost_end (results_none rfl _ _ _) rfl ?_
  exact ⟨rfl, HS.out⟩
 ·rw [if_neg c] at h; obtain ⟨b, hb, h⟩ := Option.bind_eq_some_iff.1 h; have h := Option.some.inj h
  have cb : (x.toList == s.toList) = false := by simpa using c
  cases b with
  | false =>
   simp only [Bool.false_eq_true, if_false] at h
   subst h; go_enter Try.func105, Try.ntmps105
   go_wp2_with (go_at_call 78; refine (impl_WordOk.calls k x false _ hb).mono ?_; rintro e w' ⟨rfl, ⟨nd, rfl⟩⟩)
   refine bodyPost_end (results_none rfl _ _ _) rfl ?_
   exact ⟨rfl, HS.out.drewN nd⟩
  | true =>
   simp only [if_true] at h
   subst h; obtain ⟨v, hb3, hr⟩ := HS.out.row; obtain ⟨A3, c3, rfl⟩ := Kd.R_slice hr
   have hfresh : ∀ k, W.heap.size ≤ k → k ≠ B1 ∧ k ≠ B3 := fun k hk => ⟨by have := blk_lt HS.out.b1; omega, by have := blk_lt hb3; omega⟩
   have hapart : ∀ k, (Value.slice A3 xs.length c3).ownBlock = some k → k ≠ B1 ∧ k ≠ B3 := fun k hk => hr.1 k hk
   have HR := am hr; have HB3 := am hb3; clear hr hb3; go_enter Try.func105, Try.ntmps105
   go_wp2_with (first
    | (go_at_call 78; refine (impl_WordOk.calls k x true _ hb).mono ?_; rintro e w' ⟨rfl, ⟨nd, rfl⟩⟩; have hcell3 : (W.drewN nd).cell? ⟨B3, 0, none⟩ = some (.slice A3 xs.length c3) := (blk_cell (blk_drewN HB3.out nd) 0).trans rfl)
    | ((with_reducible refine gate_builtin (b := .append) (xs := #[.tmp 11, .tmp 13]) rfl ?_); at_builtin; go_loud (refine Kd.R_append Kd.string (w0 := w) w.heap.size rfl (.tmp 11) (.tmp 13) 27 9 (.string ⟨#[]⟩) 16 rfl Try.underlying27 info9 rfl (by decide) (by decide) (.slice A3 xs.length c3) xs x [.string x] (fun k => k ≠ B1 ∧ k ≠ B3) (fun _ => False) rfl rfl rfl (fun _ h => h.elim) hfresh (Kd.R_drewN HR.out nd) (pw_below_drewN HS.out.below nd) (below_size (pw_below_drewN HS.out.below nd)) (by omega) ?_; intro v1 w1 ho hbw hg hat; obtain ⟨A4, c4, rfl⟩ := Kd.R_slice ho; have hb3' := blk_grown (blk_drewN HB3.out nd) hg (fun e => (hapart B3 e.symm).2 rfl); have hb1' := blk_grown (blk_drewN HS.out.b1 nd) hg (fun e => (hapart B1 e.symm).1 rfl); have hcell4 : w1.cell? ⟨B3, 0, none⟩ = some (.slice A3 xs.length c3) := (blk_cell hb3' 0).trans rfl; have hfz4 := bf hb3' 0; have HO := am ho; have HL := am (show (xs ++ [x]).length = xs.length + 1 from by simp); have HBW := am hbw; have HB3' := am hb3'; have HB1' := am hb1'; clear ho hbw hg hat hb3' hb1')))
   refine bodyPost_end (results_none rfl _ _ _) rfl ?_
   refine ⟨rfl, HS.out.ge1, HS.out.ge3, HS.out.ne, blk_far HB1'.out HS.out.ne _, ⟨_, blk_put HB3'.out 0 _ rfl, Kd.R_step (HL.out ▸ HO.out) (fun k hk _ => Below.heap_setCell _ _ _ k (fun e => hk.2 e))⟩, below_set HBW.out HS.out.ge3⟩
set_option maxHeartbeats 4000000 in
set_option maxRecDepth 100000 in
theorem impl_Near.calls (k : Nat) (a0 : ByteArray) (r : List ByteArray) (w : World) (h : impl_Near.f k a0 = some r) :
  Calls Try.prog 70 #[.string a0] w fun e w' => ∃ v0_ : Value, e = .returned (v0_) ∧ Kd.R Kd.string 9 w' w.heap.size (fun _ => True) v0_ r ∧ Below w.heap.size w w' := by
 unfold impl_Near.f at h
 obtain ⟨b, hb, h⟩ := Option.bind_eq_some_iff.1 h; have HW := am hb; clear hb
 cases b with
 | false =>
  simp only [Bool.false_eq_true, if_false] at h
  obtain rfl := Option.some.inj h; clear h; go_enter Try.func70, Try.ntmps70
  go_wp2_with (first
   | (go_at_call 78; refine (impl_WordOk.calls k a0 false _ HW.out).mono ?_; rintro e w' ⟨rfl, ⟨nd, rfl⟩⟩)
   | ((with_reducible refine gate_dst (N := 11) rfl ?_); refine Kd.R_lit Kd.string w.heap.size 9 ?hg (N := 11) ?hd (xs := ([] : List ByteArray)) (inner := []) (ok := fun _ => True) (okp := fun _ => True) ?hr ?hp (fun _ hk => hk) trivial (pw_below_drewN (below_alloc (Below.refl _ w) _) nd) (below_size (pw_below_drewN (below_alloc (Below.refl _ w) _) nd)) (by simp) ?_; (case hd => rfl); (case hg => rfl); (case hr => (go_simp; done)); (case hp => exact (Reps.none _ _)); intro v11 w1 ho hbw hg_ hnew_; have HO := am ho; have HB := am hbw; clear ho hbw hg_ hnew_))
  go_ret
  exact ⟨v11, rfl, HO.out, HB.out⟩
 | true =>
  simp only [if_true] at h
  split at h
  case isFalse => cases h
  rename_i hsz; obtain ⟨r0, hgo, h⟩ := Option.bind_eq_some_iff.1 h; have HG := am hgo; have HF := am h; clear hgo h; go_enter Try.func70, Try.ntmps70
  go_wp2_with (first
   | ((with_reducible refine gate_dst (N := 1) rfl ?_); refine bx 1 (cs := #[.string a0]) (t := 9) ?_; intro B1 hg1 w1 hbox hbw; have GE1 : w.heap.size ≤ B1 := Nat.le_of_eq hg1.symm; have BK1 := am hbox; have HB1 := am hbw; have hcell1 : w1.cell? ⟨B1, 0, none⟩ = some (.string a0) := (blk_cell hbox 0).trans rfl; clear hbox hbw hg1)
   | (go_at_call 78; refine (impl_WordOk.calls k a0 true _ HW.out).mono ?_; rintro e w' ⟨rfl, ⟨nd, rfl⟩⟩)
   | ((with_reducible refine gate_dst (N := 12) rfl ?_); refine Kd.R_lit Kd.string w.heap.size 9 ?hg (N := 12) ?hd (xs := ([] : List ByteArray)) (inner := []) (ok := fun k => k ≠ B1) (okp := fun k => k ≠ B1) ?hr ?hp (fun _ hk => hk) (Nat.ne_of_gt (blk_lt (blk_drewN BK1.out nd))) (pw_below_drewN HB1.out nd) (below_size (pw_below_drewN HB1.out nd)) (by simp) ?_; (case hd => rfl); (case hg => rfl); (case hr => (go_simp; done)); (case hp => exact (Reps.none _ _)); intro v12 w2 ho hbw hg_ hnew_; have HO := am ho; have HB2 := am hbw; have BK2 := am (blk_grown (blk_drewN BK1.out nd) hg_ (by simp)); clear ho hbw hg_ hnew_ hcell1)
   | ((with_reducible refine gate_dst (N := 3) rfl ?_); refine bx 3 (cs := #[.slice none 0 0]) (t := 27) ?_; intro B3 hg3 w3 hbox3 hbw3; have GE3 : w.heap.size ≤ B3 := (by rw [hg3]; exact below_size HB2.out); have NE13 : B1 ≠ B3 := (by rw [hg3]; exact Nat.ne_of_lt (blk_lt BK2.out)); have HO3 := am (Kd.R_below (Kd.R_mono (Kd.R_bound HO.out) (fun k hk => (⟨hk.1, by rw [hg3]; exact Nat.ne_of_lt hk.2.2.1⟩ : k ≠ B1 ∧ k ≠ B3))) hbw3); have BK13 := am (blk_below BK2.out hbw3); have BK3 := am hbox3; have HB3 := am (below_step HB2.out hbw3); have HG3 := am hg3; obtain ⟨A12, c12, rfl⟩ := Kd.R_slice HO.out; have hcell3 : w3.cell? ⟨B3, 0, none⟩ = some (.slice none 0 0) := (blk_cell hbox3 0).trans rfl; have hfz3 := bf hbox3 0; clear hbox3 hbw3 hg3))
  have S0 : impl_Near.St w (w3.setCell ⟨B3, 0, none⟩ (.slice A12 0 c12)) B1 B3 a0 [] := ⟨GE1, GE3, NE13, blk_far BK13.out NE13 _, ⟨_, blk_put BK3.out 0 _ rfl, Kd.R_step HO3.out (fun k hk _ => Below.heap_setCell _ _ _ k (fun e => hk.2 e))⟩, below_set HB3.out GE3⟩
  have HS0 := Aside0.mk S0; clear S0 hcell3 hfz3 BK1 HB1 BK2 HB2 BK13 BK3 HB3 HG3 HO HO3; generalize w3.setCell ⟨B3, 0, none⟩ (.slice A12 0 c12) = W0 at HS0 ⊢
  go_loopg [5] (a0.size + 1) (fun kq v5 W => ∃ (i : Nat) (xs : List ByteArray), v5 = .int .i64 (i : Int) ∧ Aside0 (i ≤ a0.size + 1) ∧ Aside0 (a0.size + 1 - i ≤ kq) ∧ Aside0 (impl_Near.St w W B1 B3 a0 xs) ∧ Aside0 (impl_Near.go k a0 (M.candsFrom a0 i) xs = some r0))
  case atStart => exact ⟨0, [], rfl, ⟨by omega⟩, ⟨by omega⟩, HS0, HG⟩
  case round =>
   obtain ⟨i, xs, rfl, HI, HK, HS, HC⟩ := hrel; clear HS0 HG
   have hcell1 : wr.cell? ⟨B1, 0, none⟩ = some (.string a0) := (blk_cell HS.out.b1 0).trans rfl
   by_cases c : (i : Int) ≤ (a0.size : Int)
   ·have cb : decide ((i : Int) ≤ (a0.size : Int)) = true := decide_eq_true c
    have cb2 : (i ≤ a0.size) = True := eq_true (by omega)
    have cb3 : decide (i ≤ a0.size) = true := decide_eq_true (by omega)
    have HLE := am (show i ≤ a0.size by omega)
    cases gk with
    | zero => exact absurd HK.out (by omega)
    | succ k0 =>
    have HC2 := am (show impl_Near.go k a0 (M.lettersAt a0 i 97 ++ (M.delAt a0 i ++ (M.swpAt a0 i ++ M.candsFrom a0 (i + 1)))) xs = some r0 by
     have e := HC.out
     rw [M.candsFrom_step a0 i (by omega)] at e
     unfold M.candsAt at e
     rw [List.append_assoc, List.append_assoc] at e
     exact e)
    clear c; go_wp2
    go_loopg [6] 26 (fun kq v6 W => ∃ (c : Nat) (ys : List ByteArray), v6 = .int .u8 (c : Int) ∧ Aside0 (97 ≤ c ∧ c ≤ 123) ∧ Aside0 (123 - c ≤ kq) ∧ Aside0 (impl_Near.St w W B1 B3 a0 ys) ∧ Aside0 (impl_Near.go k a0 (M.lettersAt a0 i c ++ (M.delAt a0 i ++ (M.swpAt a0 i ++ M.candsFrom a0 (i + 1)))) ys = some r0))
    case atStart => exact ⟨97, xs, rfl, ⟨by omega⟩, ⟨by omega⟩, HS, HC2⟩
    case round =>
     obtain ⟨c, ys, rfl, HCC, HKC, HSC, HCC2⟩ := hrel
     have hcell2 : wr.cell? ⟨B1, 0, none⟩ = some (.string a0) := (blk_cell HSC.out.b1 0).trans rfl
     by_cases d : (c : Int) ≤ 122
     ·have db : decide ((c : Int) ≤ 122) = true := decide_eq_true d
      have db2 : (c ≤ 122) = True := eq_true (by omega)
      have db3 : decide (c ≤ 122) = true := decide_eq_true (by omega)
      have HD := Aside0.mk d; clear d
      cases gk with
      | zero => exact absurd HKC.out (by have := HD.out; omega)
      | succ k1 =>
      have hconv := own_string (P := Try.prog) (src := 41) (dst := 9) (e := 5) Try.underlying41 Try.underlying5 Try.underlying9 (w := wr.alloc (.cells #[.int .u8 (c : Int)] 5)) (base := 0) (e' := 5) (n := 1) (v := .slice (some ⟨wr.heap.size, 0, none⟩) 1 1) (xs := [(c : Int)]) (by have h2 := World.ownsRow_lit (base := 0) (e := 5) (size := 1) wr #[.int .u8 (c : Int)] 1 (Nat.zero_le _) (by decide) (by simp); simpa [nums] using h2)
      go_wp2; clear hconv hcell2 hcell1; have HSA := am ((HSC.out.alloc (.cells #[.int .u8 (c : Int)] 5)).drew); have hle := HLE.out
      have hL : (strOfNums [(c : Int)]).size = 1 := rfl
      have hm : (c : Int) % 256 = (c : Int) := by have := HCC.out; omega
      have z1 : (a0.extract 0 i).size = i := by rw [M.size_extract _ _ _ (by omega) HLE.out]; omega
      have z2 : (a0.extract i a0.size).size = a0.size - i := M.size_extract _ _ _ HLE.out (Nat.le_refl _)
      have hu : IntKind.u8.wrap ((c : Int) + 1) = ((c + 1 : Nat) : Int) := by have := HD.out; have := HCC.out; show ((c : Int) + 1) % 256 = _; omega
      have w1 : (9223372036854775807 < (a0.extract 0 i).size + (strOfNums [(c : Int)]).size) = False := impl_Near.big (by omega)
      have w3 : (9223372036854775807 < ((a0.extract 0 i) ++ (strOfNums [(c : Int)])).size + (a0.extract i a0.size).size) = False := impl_Near.big (by rw [M.size_append]; omega)
      have w5 : (9223372036854775807 < i + 1) = False := impl_Near.big (by omega)
      have w6 : (9223372036854775807 < i + 1 + (a0.size - i)) = False := impl_Near.big (by omega)
      by_cases e1 : i < a0.size
      ·obtain ⟨ys1, hp1, hg1⟩ : ∃ ys1, impl_Near.put k a0 ys ((a0.extract 0 i ++ strOfNums [(c : Int)]) ++ a0.extract i a0.size) = some ys1 ∧ impl_Near.go k a0 (M.subB a0 i c :: (M.lettersAt a0 i (c + 1) ++ (M.delAt a0 i ++ (M.swpAt a0 i ++ M.candsFrom a0 (i + 1))))) ys1 = some r0 := by
        have e := HCC2.out
        rw [M.lettersAt_step a0 i c (by have := HD.out; omega), M.letAt, if_pos e1] at e
        obtain ⟨y, h1, h2⟩ := Option.bind_eq_some_iff.1 e
        refine ⟨y, ?_, h2⟩
        unfold M.insB at h1
        rw [hm] at h1
        exact h1
       obtain ⟨ys2, hp2, hg2⟩ : ∃ ys2, impl_Near.put k a0 ys1 ((a0.extract 0 i ++ strOfNums [(c : Int)]) ++ a0.extract (i + 1) a0.size) = some ys2 ∧ impl_Near.go k a0 (M.lettersAt a0 i (c + 1) ++ (M.delAt a0 i ++ (M.swpAt a0 i ++ M.candsFrom a0 (i + 1)))) ys2 = some r0 := by
        obtain ⟨y, h1, h2⟩ := Option.bind_eq_some_iff.1 hg1
        refine ⟨y, ?_, h2⟩
        unfold M.subB at h1
        rw [hm] at h1
        exact h1
       have HP1 := am hp1; have HP2 := am hp2; have HG2 := am hg2; clear hp1 hg1 hp2 hg2
       have e1b : (i < a0.size) = True := eq_true e1
       have e1c : decide (i < a0.size) = true := decide_eq_true e1
       have e1d : (i + 1 ≤ a0.size) = True := eq_true e1
       have b1 : ((i : Int) + 1 ≤ (a0.size : Int)) = True := eq_true (Int.ofNat_le.2 e1)
       have b0 : (0 ≤ (i : Int) + 1) = True := eq_true (Int.natCast_nonneg (i + 1))
       have z3 : (a0.extract (i + 1) a0.size).size = a0.size - (i + 1) := M.size_extract _ _ _ e1 (Nat.le_refl _)
       have w7 : (9223372036854775807 < i + 1 + (a0.size - (i + 1))) = False := impl_Near.big (by rw [Nat.add_sub_of_le e1]; exact Nat.le_trans hsz (by decide))
       have hw : wrap64 ((i : Int) + 1) = ((i + 1 : Nat) : Int) := impl_Near.w64n hle hsz
       have w14 : (9223372036854775807 < a0.size) = False := impl_Near.big (by omega)
       refine st (n := 11) (S := fun w' => w'.cell? ⟨B1, 0, none⟩ = some (.string a0)) (ds := []) ((blk_cell HSA.out.b1 0).trans rfl) (fun hHeld => ?_); refine with_tabW impl_Near.tab12 impl_Near.bits12 (fun HT_ HW_ => ?_)
       refine pu 0 27 ?_; refine tk1 1 28 hHeld ?_; refine pu 2 29 ?_; refine pu 3 30 ?_; refine pu 4 31 ?_; refine pu 5 32 ?_; refine tk1 6 33 hHeld ?_; refine pu 7 34 ?_; refine pu 8 35 ?_; refine pu 9 36 ?_; refine on1 10 37 (fun K hK => ?_)
       refine call_ 105 #[.string ((a0.extract 0 i ++ strOfNums [(c : Int)]) ++ a0.extract i a0.size), .pointer (some ⟨B1, 0, none⟩), .pointer (some ⟨B3, 0, none⟩)] (by rfl) rfl b112_ ?_
       refine (impl_Near.putc k a0 _ _ _ w _ B1 B3 HSA.out HP1.out).mono ?_
       rintro e wn ⟨rfl, hSn⟩
       refine ⟨_, rfl, ?_⟩; have HSN := am hSn; clear hSn; refine hK.out _ _ ((blk_cell HSN.out.b1 0).trans rfl) (fun hHeld => ?_); clear hK K; refine nm 37 ?_
       refine done_ (done_of HT_.out (by kernel_rfl)) ?_
       clear HT_ HW_; go_wp2; clear hHeld; have HSB := am HSN.out.drew
       refine st (n := 12) (S := fun w' => w'.cell? ⟨B1, 0, none⟩ = some (.string a0)) (ds := []) ((blk_cell HSB.out.b1 0).trans rfl) (fun hHeld => ?_); refine with_tabW impl_Near.tab14 impl_Near.bits14 (fun HT_ HW_ => ?_)
       refine pu 0 42 ?_; refine tk1 1 43 hHeld ?_; refine pu 2 44 ?_; refine pu 3 45 ?_; refine pu 4 46 ?_; refine pu 5 47 ?_; refine tk1 6 48 hHeld ?_; refine pu 7 49 ?_; refine pu 8 50 ?_; refine pu 9 51 ?_; refine pu 10 52 ?_; refine on1 11 53 (fun K hK => ?_)
       refine call_ 105 #[.string ((a0.extract 0 i ++ strOfNums [(c : Int)]) ++ a0.extract (i + 1) a0.size), .pointer (some ⟨B1, 0, none⟩), .pointer (some ⟨B3, 0, none⟩)] (by rfl) rfl b112_ ?_
       refine (impl_Near.putc k a0 _ _ _ w _ B1 B3 HSB.out HP2.out).mono ?_
       rintro e wn ⟨rfl, hSn⟩
       refine ⟨_, rfl, ?_⟩; have HSM := am hSn; clear hSn; refine hK.out _ _ ((blk_cell HSM.out.b1 0).trans rfl) (fun hHeld => ?_); clear hK K; refine nm 53 ?_
       refine done_ (done_of HT_.out (by kernel_rfl)) ?_
       clear HT_ HW_; go_wp2
       go_roundg k1
       case measure => have := HKC.out; have := HD.out; omega
       case rel => exact ⟨c + 1, ys2, (by rfl), ⟨by have := HD.out; have := HCC.out; omega⟩, ⟨by have := HKC.out; omega⟩, HSM, HG2⟩
      ·obtain ⟨ys1, hp1, hg1⟩ : ∃ ys1, impl_Near.put k a0 ys ((a0.extract 0 i ++ strOfNums [(c : Int)]) ++ a0.extract i a0.size) = some ys1 ∧ impl_Near.go k a0 (M.lettersAt a0 i (c + 1) ++ (M.delAt a0 i ++ (M.swpAt a0 i ++ M.candsFrom a0 (i + 1)))) ys1 = some r0 := by
        have e := HCC2.out
        rw [M.lettersAt_step a0 i c (by have := HD.out; omega), M.letAt, if_neg e1] at e
        obtain ⟨y, h1, h2⟩ := Option.bind_eq_some_iff.1 e
        refine ⟨y, ?_, h2⟩
        unfold M.insB at h1
        rw [hm] at h1
        exact h1
       have HP1 := am hp1; have HG2 := am hg1; clear hp1 hg1
       have e1b : (i < a0.size) = False := eq_false e1
       have e1c : decide (i < a0.size) = false := decide_eq_false e1
       have w14 : (9223372036854775807 < a0.size) = False := impl_Near.big (by omega)
       refine st (n := 11) (S := fun w' => w'.cell? ⟨B1, 0, none⟩ = some (.string a0)) (ds := []) ((blk_cell HSA.out.b1 0).trans rfl) (fun hHeld => ?_); refine with_tabW impl_Near.tab12 impl_Near.bits12 (fun HT_ HW_ => ?_)
       refine pu 0 27 ?_; refine tk1 1 28 hHeld ?_; refine pu 2 29 ?_; refine pu 3 30 ?_; refine pu 4 31 ?_; refine pu 5 32 ?_; refine tk1 6 33 hHeld ?_; refine pu 7 34 ?_; refine pu 8 35 ?_; refine pu 9 36 ?_; refine on1 10 37 (fun K hK => ?_)
       refine call_ 105 #[.string ((a0.extract 0 i ++ strOfNums [(c : Int)]) ++ a0.extract i a0.size), .pointer (some ⟨B1, 0, none⟩), .pointer (some ⟨B3, 0, none⟩)] (by rfl) rfl b112_ ?_
       refine (impl_Near.putc k a0 _ _ _ w _ B1 B3 HSA.out HP1.out).mono ?_
       rintro e wn ⟨rfl, hSn⟩
       refine ⟨_, rfl, ?_⟩; have HSN := am hSn; clear hSn; refine hK.out _ _ ((blk_cell HSN.out.b1 0).trans rfl) (fun hHeld => ?_); clear hK K; refine nm 37 ?_
       refine done_ (done_of HT_.out (by kernel_rfl)) ?_
       clear HT_ HW_; go_wp2
       go_roundg k1
       case measure => have := HKC.out; have := HD.out; omega
       case rel => exact ⟨c + 1, ys1, (by rfl), ⟨by have := HD.out; have := HCC.out; omega⟩, ⟨by have := HKC.out; omega⟩, HSN, HG2⟩
     ·have db : decide ((c : Int) ≤ 122) = false := decide_eq_false d
      have db2 : (c ≤ 122) = False := eq_false (by omega)
      have db3 : decide (c ≤ 122) = false := decide_eq_false (by omega)
      have HC3 := am (show impl_Near.go k a0 (M.delAt a0 i ++ (M.swpAt a0 i ++ M.candsFrom a0 (i + 1))) ys = some r0 by
       have e := HCC2.out
       rw [M.lettersAt_end a0 i c (by omega), List.nil_append] at e
       exact e)
      clear d; have hle := HLE.out
      have hw : wrap64 ((i : Int) + 1) = ((i + 1 : Nat) : Int) := impl_Near.w64n hle hsz
      have hw2 : wrap64 ((i : Int) + 2) = ((i + 2 : Nat) : Int) := M.w64 (by omega) (by omega)
      have z1 : (a0.extract 0 i).size = i := by rw [M.size_extract _ _ _ (by omega) HLE.out]; omega
      by_cases e1 : i < a0.size
      ·have e1b : (i < a0.size) = True := eq_true e1
       have e1c : decide (i < a0.size) = true := decide_eq_true e1
       have e1d : (i + 1 ≤ a0.size) = True := eq_true e1
       have b1 : ((i : Int) + 1 ≤ (a0.size : Int)) = True := eq_true (Int.ofNat_le.2 e1)
       have b0 : (0 ≤ (i : Int) + 1) = True := eq_true (Int.natCast_nonneg (i + 1))
       have z3 : (a0.extract (i + 1) a0.size).size = a0.size - (i + 1) := M.size_extract _ _ _ e1 (Nat.le_refl _)
       have w7 : (9223372036854775807 < i + (a0.size - (i + 1))) = False := impl_Near.big (by omega)
       obtain ⟨ys1, hp1, hg1⟩ : ∃ ys1, impl_Near.put k a0 ys (a0.extract 0 i ++ a0.extract (i + 1) a0.size) = some ys1 ∧ impl_Near.go k a0 (M.swpAt a0 i ++ M.candsFrom a0 (i + 1)) ys1 = some r0 := by
        have e := HC3.out; rw [M.delAt, if_pos e1] at e
        exact Option.bind_eq_some_iff.1 e
       have HP1 := am hp1; have HG1 := am hg1; clear hp1 hg1
       have w14 : (9223372036854775807 < a0.size) = False := impl_Near.big (by omega)
       have w15 : (9223372036854775807 < i + (a0.size - (i + 1))) = False := impl_Near.big (by omega)
       by_cases e2 : i + 1 < a0.size
       ·have e2b : (i + 1 < a0.size) = True := eq_true e2
        have e2c : decide (i + 1 < a0.size) = true := decide_eq_true e2
        have e2d : (i + 2 ≤ a0.size) = True := eq_true e2
        have b2 : ((i : Int) + 2 ≤ (a0.size : Int)) = True := eq_true (by omega)
        have b3 : (0 ≤ (i : Int) + 2) = True := eq_true (by omega)
        have b4 : ((i : Int) + 1 ≤ (i : Int) + 2) = True := eq_true (by omega)
        have b5 : ((i : Int) ≤ (i : Int) + 1) = True := eq_true (by omega)
        have b6 : (i + 1 ≤ i + 2) = True := eq_true (by omega)
        have b7 : (i ≤ i + 1) = True := eq_true (by omega)
        have z4 : (a0.extract (i + 1) (i + 2)).size = 1 := by rw [M.size_extract _ _ _ (by omega) (by omega)]; omega
        have z5 : (a0.extract i (i + 1)).size = 1 := by rw [M.size_extract _ _ _ (by omega) (by omega)]; omega
        have z6 : (a0.extract (i + 2) a0.size).size = a0.size - (i + 2) := M.size_extract _ _ _ (by omega) (Nat.le_refl _)
        have w8 : (9223372036854775807 < i + 1) = False := impl_Near.big (by omega)
        have w9 : (9223372036854775807 < i + 1 + 1) = False := impl_Near.big (by omega)
        have w10 : (9223372036854775807 < i + 1 + 1 + (a0.size - (i + 2))) = False := impl_Near.big (by omega)
        have w11 : (9223372036854775807 < i + (i + 2 - (i + 1))) = False := impl_Near.big (by omega)
        have w12 : (9223372036854775807 < i + 2) = False := impl_Near.big (by omega)
        have w13 : (9223372036854775807 < i + 2 + (a0.size - (i + 2))) = False := impl_Near.big (by omega)
        obtain ⟨ys2, hp2, hg2⟩ : ∃ ys2, impl_Near.put k a0 ys1 (((a0.extract 0 i ++ a0.extract (i + 1) (i + 2)) ++ a0.extract i (i + 1)) ++ a0.extract (i + 2) a0.size) = some ys2 ∧ impl_Near.go k a0 (M.candsFrom a0 (i + 1)) ys2 = some r0 := by
         have e := HG1.out; rw [M.swpAt, if_pos e2] at e
         exact Option.bind_eq_some_iff.1 e
        have HP2 := am hp2; have HG2 := am hg2; clear hp2 hg2
        have t2 : ((i : Int) + 2).toNat = i + 2 := by omega
        have t1 : ((i : Int) + 1).toNat = i + 1 := by omega
        go_wp2; have HSA := am HSC.out.drew
        refine st (n := 10) (S := fun w' => w'.cell? ⟨B1, 0, none⟩ = some (.string a0)) (ds := []) ((blk_cell HSA.out.b1 0).trans rfl) (fun hHeld => ?_); refine with_tabW impl_Near.tab16 impl_Near.bits16 (fun HT_ HW_ => ?_)
        refine pu 0 58 ?_; refine tk1 1 59 hHeld ?_; refine pu 2 60 ?_; refine pu 3 61 ?_; refine tk1 4 62 hHeld ?_; refine pu 5 63 ?_; refine pu 6 64 ?_; refine pu 7 65 ?_; refine pu 8 66 ?_; refine on1 9 67 (fun K hK => ?_)
        refine call_ 105 #[.string (a0.extract 0 i ++ a0.extract (i + 1) a0.size), .pointer (some ⟨B1, 0, none⟩), .pointer (some ⟨B3, 0, none⟩)] (by rfl) rfl b112_ ?_
        refine (impl_Near.putc k a0 _ _ _ w _ B1 B3 HSA.out HP1.out).mono ?_
        rintro e wn ⟨rfl, hSn⟩
        refine ⟨_, rfl, ?_⟩; have HSN := am hSn; clear hSn; refine hK.out _ _ ((blk_cell HSN.out.b1 0).trans rfl) (fun hHeld => ?_); clear hK K; refine nm 67 ?_
        refine done_ (done_of HT_.out (by kernel_rfl)) ?_
        clear HT_ HW_; go_wp2; clear hHeld; have HSB := am HSN.out.drew
        refine st (n := 23) (S := fun w' => w'.cell? ⟨B1, 0, none⟩ = some (.string a0)) (ds := []) ((blk_cell HSB.out.b1 0).trans rfl) (fun hHeld => ?_); refine with_tabW impl_Near.tab18 impl_Near.bits18 (fun HT_ HW_ => ?_)
        refine pu 0 73 ?_; refine tk1 1 74 hHeld ?_; refine pu 2 75 ?_; refine pu 3 76 ?_; refine tk1 4 77 hHeld ?_; refine pu 5 78 ?_; refine pu 6 79 ?_; refine pu 7 80 ?_; refine pu 8 81 ?_; refine pu 9 82 ?_; refine pu 10 83 ?_; refine tk1 11 84 hHeld ?_; refine pu 12 85 ?_; refine pu 13 86 ?_; refine pu 14 87 ?_; refine pu 15 88 ?_; refine pu 16 89 ?_; refine tk1 17 90 hHeld ?_; refine pu 18 91 ?_; refine pu 19 92 ?_; refine pu 20 93 ?_; refine pu 21 94 ?_; refine on1 22 95 (fun K hK => ?_)
        refine call_ 105 #[.string (((a0.extract 0 i ++ a0.extract (i + 1) (i + 2)) ++ a0.extract i (i + 1)) ++ a0.extract (i + 2) a0.size), .pointer (some ⟨B1, 0, none⟩), .pointer (some ⟨B3, 0, none⟩)] (by rfl) rfl b112_ ?_
        refine (impl_Near.putc k a0 _ _ _ w _ B1 B3 HSB.out HP2.out).mono ?_
        rintro e wn ⟨rfl, hSn⟩
        refine ⟨_, rfl, ?_⟩; have HSM := am hSn; clear hSn; refine hK.out _ _ ((blk_cell HSM.out.b1 0).trans rfl) (fun hHeld => ?_); clear hK K; refine nm 95 ?_
        refine done_ (done_of HT_.out (by kernel_rfl)) ?_
        clear HT_ HW_; go_wp2
        go_roundg k0
        case measure => have := HK.out; have := HLE.out; omega
        case rel => exact ⟨i + 1, ys2, (by rfl), ⟨by have := HLE.out; omega⟩, ⟨by have := HK.out; omega⟩, HSM, HG2⟩
       ·have e2b : (i + 1 < a0.size) = False := eq_false e2
        have e2c : decide (i + 1 < a0.size) = false := decide_eq_false e2
        have HG2 := am (show impl_Near.go k a0 (M.candsFrom a0 (i + 1)) ys1 = some r0 by
         have e := HG1.out; rw [M.swpAt, if_neg e2] at e
         exact e)
        go_wp2; have HSA := am HSC.out.drew
        refine st (n := 10) (S := fun w' => w'.cell? ⟨B1, 0, none⟩ = some (.string a0)) (ds := []) ((blk_cell HSA.out.b1 0).trans rfl) (fun hHeld => ?_); refine with_tabW impl_Near.tab16 impl_Near.bits16 (fun HT_ HW_ => ?_)
        refine pu 0 58 ?_; refine tk1 1 59 hHeld ?_; refine pu 2 60 ?_; refine pu 3 61 ?_; refine tk1 4 62 hHeld ?_; refine pu 5 63 ?_; refine pu 6 64 ?_; refine pu 7 65 ?_; refine pu 8 66 ?_; refine on1 9 67 (fun K hK => ?_)
        refine call_ 105 #[.string (a0.extract 0 i ++ a0.extract (i + 1) a0.size), .pointer (some ⟨B1, 0, none⟩), .pointer (some ⟨B3, 0, none⟩)] (by rfl) rfl b112_ ?_
        refine (impl_Near.putc k a0 _ _ _ w _ B1 B3 HSA.out HP1.out).mono ?_
        rintro e wn ⟨rfl, hSn⟩
        refine ⟨_, rfl, ?_⟩; have HSN := am hSn; clear hSn; refine hK.out _ _ ((blk_cell HSN.out.b1 0).trans rfl) (fun hHeld => ?_); clear hK K; refine nm 67 ?_
        refine done_ (done_of HT_.out (by kernel_rfl)) ?_
        clear HT_ HW_; go_wp2
        go_roundg k0
        case measure => have := HK.out; have := HLE.out; omega
        case rel => exact ⟨i + 1, ys1, (by rfl), ⟨by have := HLE.out; omega⟩, ⟨by have := HK.out; omega⟩, HSN, HG2⟩
      ·have e1b : (i < a0.size) = False := eq_false e1
       have e1c : decide (i < a0.size) = false := decide_eq_false e1
       have e2b : (i + 1 < a0.size) = False := eq_false (by omega)
       have e2c : decide (i + 1 < a0.size) = false := decide_eq_false (by omega)
       have HG2 := am (show impl_Near.go k a0 (M.candsFrom a0 (i + 1)) ys = some r0 by
        have e := HC3.out
        rw [M.delAt, if_neg e1, M.swpAt, if_neg (by omega)] at e
        exact e)
       go_wp2
       go_roundg k0
       case measure => have := HK.out; have := HLE.out; omega
       case rel => exact ⟨i + 1, ys, (by rfl), ⟨by have := HLE.out; omega⟩, ⟨by have := HK.out; omega⟩, HSC, HG2⟩
   ·have cb : decide ((i : Int) ≤ (a0.size : Int)) = false := decide_eq_false c
    have cb2 : (i ≤ a0.size) = False := eq_false (by omega)
    have cb3 : decide (i ≤ a0.size) = false := decide_eq_false (by omega)
    have HE := am (show xs = r0 by
     have e := HC.out
     rw [M.candsFrom_end a0 i (by omega)] at e
     exact Option.some.inj e)
    obtain ⟨v3, hb3, hr3⟩ := HS.out.row; obtain ⟨A3, c3, rfl⟩ := Kd.R_slice hr3
    have hcell3 : wr.cell? ⟨B3, 0, none⟩ = some (.slice A3 xs.length c3) := (blk_cell hb3 0).trans rfl
    have HR3 := am hr3; clear hb3 hr3 c
    go_wp2_with (go_at_call 106; refine (impl_sorted.calls A3 c3 xs r _ (Kd.R_reads' HR3.out).2.2 (Kd.R_reads' HR3.out).2.1 (by rw [HE.out]; exact HF.out)).mono ?_; rintro e w' ⟨v0, rfl, hR, hB⟩; have HRR := am hR; have HBB := am hB; clear hR hB)
    go_ret
    exact ⟨v0, rfl, Kd.R_lower HRR.out (below_size HS.out.below), below_step HS.out.below HBB.out⟩
-- shrunk

/-! ### impl_MachineGuesses: function 22 -/
def impl_MachineGuesses.l0 : Nat → List (S95) → List ByteArray → List ByteArray → Int → Int → Option (List ByteArray)
 | 0, _, _, _, _, _ => none
 | k + 1, x0, x5, x14, x15, x16 => if x16 < x15 then (if 0 ≤ x16 then (if x16 < (x14.length : Int) then ((impl_MachineKnows.f k x0 (rdOf ByteArray.empty x14 x16)).bind fun t616 => (if t616 = true then (if x5.length < 8796093022208 then (impl_MachineGuesses.l0 k x0 (x5 ++ [rdOf ByteArray.empty x14 x16]) x14 x15 (wrap64 (x16 + 1))) else (none)) else (impl_MachineGuesses.l0 k x0 x5 x14 x15 (wrap64 (x16 + 1))))) else (none)) else (none)) else (some x5)
def impl_MachineGuesses.f (k : Nat) (l0 : List (S95)) (a1 : ByteArray) : Option (List ByteArray) := (some (([] : List ByteArray) : List ByteArray)).bind fun y608 => ((impl_MachineOk.f k l0).bind fun t611 => (if t611 = true then ((impl_Near.f k a1).bind fun t612 => (impl_MachineGuesses.l0 k l0 y608 t612 (t612.length : Int) 0)) else (some y608)))
theorem impl_MachineGuesses.calls (k : Nat) (A0 : Option Addr) (c0 : Nat) (l0 : List (S95)) (a1 : ByteArray) (r : List ByteArray) (w : World) (hr0 : Kd.C k95 w A0 l0.length l0) (hc0 : l0.length ≤ c0) (h : impl_MachineGuesses.f k l0 a1 = some r) :
  Calls Try.prog 22 #[.slice A0 l0.length c0, .string a1] w fun e w' => ∃ v0_ : Value, e = .returned (v0_) ∧ Kd.R Kd.string 9 w' w.heap.size (fun _ => True) v0_ r ∧ Below w.heap.size w w' := by
 have HR0 := am hr0; have HC0 := am hc0; clear hr0 hc0; have HB := am (Below.refl w.heap.size w)
 have H := h; unfold impl_MachineGuesses.f at H
 clear h; obtain ⟨y608, hy608⟩ : ∃ y_ : List ByteArray, y_ = (([] : List ByteArray)) := ⟨_, rfl⟩
 replace H := bm H; rw [← hy608] at H
 have Ny608 := am hy608; clear hy608; replace H := bs H; obtain ⟨t611, A30, H⟩ := H; have A3 := Aside0.mk A30; clear A30
 by_cases c4 : t611 = true
 ·subst c4
  rw [if_pos rfl] at H
  replace H := bs H; obtain ⟨t612, A50, H⟩ := H; have A5 := Aside0.mk A50; clear A50
  have H' := am H
  clear H; go_enter Try.func22, Try.ntmps22
  go_wp2_with (first | ((with_reducible refine gate_dst (N := 8) rfl ?_); refine Kd.R_lit Kd.string _ 9 ?hg (N := 8) ?hd (xs := ([] : List ByteArray)) (inner := []) (ok := fun _ => True) (okp := fun _ => True) ?hr ?hp (fun _ hk => hk) trivial (Below.refl _ _) (Nat.le_refl _) (by simp) ?_; (case hd => rfl); (case hg => rfl); (case hr => (go_simp; done)); (case hp => exact (Reps.none _ _)); intro v609 w6 ho7 hb hg_ hnew_; clear hg_ hnew_; (rw [← Ny608.out] at ho7); have HO610 := am (Kd.R_lower ho7 (below_size bel)); replace HB := am (below_step bel hb); clear hb ho7) | ((with_reducible refine gate_callee (f := 69) rfl ?_); refine gl 10 Try.func69 #[.slice A0 l0.length c0] ?_; (with_reducible refine (impl_MachineOk.calls k _ _ l0 true _ ?side1 ?side2 A3.out).mono ?_); (case side1 => exact cq (Kd.C_below HR0.out HB.out)); (case side2 => exact HC0.out); rintro e w8 ⟨rfl, hb⟩; refine ⟨_, rfl, ?_⟩; replace HO610 := am (Kd.R_below (rq HO610.out) hb); replace HB := am (below_step bel hb); clear hb) | ((with_reducible refine gate_callee (f := 70) rfl ?_); refine gl 14 Try.func70 #[.string a1] ?_; (with_reducible refine (impl_Near.calls k a1 t612 _ A5.out).mono ?_); rintro e w9 ⟨v613, rfl, ho0, hb⟩; refine ⟨_, rfl, ?_⟩; have HO614 := am (Kd.R_lower (Kd.R_new' ho0 (Kd.R_lt (rq HO610.out))) (below_size bel)); replace HO610 := am (Kd.R_elder' (rq HO610.out) (Kd.R_base ho0) hb); replace HB := am (below_step bel hb); clear hb; clear ho0; obtain ⟨Ao10, co10, eo10⟩ := Kd.R_slice HO614.out; subst eo10))
  go_loopg [5, 16] k (fun kq v5 v16 w' => ∃ (x5_1 : List ByteArray) (x16_1 : Int), v16 = .int .i64 x16_1 ∧ Aside0 (impl_MachineGuesses.l0 kq l0 x5_1 t612 (t612.length : Int) x16_1 = some r) ∧ Aside0 (kq ≤ k) ∧ Aside0 (Kd.R Kd.string 9 w' w.heap.size (fun k_ => some k_ ≠ ((.slice Ao10 t612.length co10) : Value).ownBlock) v5 x5_1) ∧ Aside0 (Kd.R Kd.string 9 w' w.heap.size (fun k_ => some k_ ≠ (v5 : Value).ownBlock) (.slice Ao10 t612.length co10) t612) ∧ Aside0 (Below w.heap.size w w'))
  case atStart => exact ⟨(y608), (0), sq, H', ⟨Nat.le_refl _⟩, ⟨rq (Kd.R_mono HO610.out (fun _ hk => hk.2))⟩, ⟨rq (Kd.R_mono HO614.out (fun _ hk => hk.2))⟩, ⟨bel⟩⟩
  case round =>
   clear H'; obtain ⟨x5_1, x16_1, rfl, HA, HK1, HO_5, HO_14, HB⟩ := hrel
   cases gk with
   | zero => exact absurd HA.out (by simp [impl_MachineGuesses.l0])
   | succ k1 =>
    have H := HA.out; clear HA; simp only [impl_MachineGuesses.l0] at H
    by_cases c11 : x16_1 < (t612.length : Int)
    ·rw [if_pos c11] at H; have c11b0 := decide_eq_true c11; clear c11
     replace H := it H; obtain ⟨c12b0, H⟩ := H
     replace H := it H; obtain ⟨c13b0, H⟩ := H; replace H := bs H; obtain ⟨t616, A140, H⟩ := H; have A14 := Aside0.mk A140; clear A140
     by_cases c15 : t616 = true
     ·subst c15
      rw [if_pos rfl] at H
      replace H := ip H; obtain ⟨c16, H⟩ := H; have LMc16 := Aside0.mk c16; clear c16; obtain ⟨y617, hy617⟩ : ∃ y_ : List ByteArray, y_ = (x5_1 ++ [rdOf ByteArray.empty t612 x16_1]) := ⟨_, rfl⟩
      rw [← hy617] at H
      have Ny617 := am hy617; clear hy617
      have H' := am H
      clear H
      have p615 : 0 ≤ (x16_1 : Int) := of_decide_eq_true ad
      have q615 : x16_1 < (t612.length : Int) := of_decide_eq_true ad
      obtain ⟨ad615, e615, hx615_0⟩ := Kd.at_string (Kd.R_reads' HO_14.out).2.2 x16_1 p615 q615; cases e615; replace p615 := eq_true p615; replace q615 := eq_true q615
      go_wp2_with (first | ((with_reducible refine gate_callee (f := 31) rfl ?_); refine gl 22 Try.func31 #[.slice A0 l0.length c0, .string (rdOf ByteArray.empty t612 x16_1)] ?_; (with_reducible refine (impl_MachineKnows.calls k1 _ _ l0 (rdOf ByteArray.empty t612 x16_1) true _ ?side1 ?side2 A14.out).mono ?_); (case side1 => exact cq (Kd.C_below HR0.out HB.out)); (case side2 => exact HC0.out); rintro e w17 ⟨rfl, hb⟩; refine ⟨_, rfl, ?_⟩; replace HO_5 := am (Kd.R_below (rq HO_5.out) hb); replace HO_14 := am (Kd.R_below (rq HO_14.out) hb); replace HB := am (below_step bel hb); clear hb) | ((with_reducible refine gate_builtin (b := .append) (xs := #[.tmp 23, .tmp 25]) rfl ?_); at_builtin; refine Kd.R_append Kd.string (w0 := w) w.heap.size rfl (.tmp 23) (.tmp 25) 27 9 (.string ⟨#[]⟩) 16 rfl Try.underlying27 info9 rfl (by decide) (by omega) u5 x5_1 (rdOf ByteArray.empty t612 x16_1) [.string (rdOf ByteArray.empty t612 x16_1)] (fun k_ => some k_ ≠ (.slice (some ad615) t612.length co10 : Value).ownBlock) (fun _ => False) rfl rfl ?aP (fun _ hk => hk.elim) ?aF ?aO ?aB ?aS ?aL ?_; (case aP => exact rfl); (case aB => exact bel); (case aF => exact (fun k_ hk => Kd.fresh' (Kd.R_lt (rq HO_14.out)) k_ hk)); (case aO => exact (rq HO_5.out)); (case aS => exact (below_size bel)); (case aL => have := LMc16.out; omega); intro v618 w18 ho hb hg hat; rw [← Ny617.out] at ho; replace HO_14 := am (Kd.R_after (ok := (fun _ => True)) (rq (Kd.R_mono HO_14.out (fun _ hk => ⟨trivial, hk⟩))) hg hat); replace HB := am (hb); have HO619 := am (ho); clear HO_5; clear ho hb hg hat))
      go_roundg k1
      case measure => have := HK1.out; omega
      case rel => exact ⟨(y617), (wrap64 (x16_1 + 1)), sq, H', ⟨b68_⟩, ⟨rq HO619.out⟩, ⟨rq (Kd.R_mono HO_14.out (fun _ hk => hk.2))⟩, ⟨bel⟩⟩
     replace c15 := Bool.eq_false_iff.mpr c15; subst c15
     rw [if_neg Bool.false_ne_true] at H
     have H' := am H
     clear H
     have p615 : 0 ≤ (x16_1 : Int) := of_decide_eq_true ad
     have q615 : x16_1 < (t612.length : Int) := of_decide_eq_true ad
     obtain ⟨ad615, e615, hx615_0⟩ := Kd.at_string (Kd.R_reads' HO_14.out).2.2 x16_1 p615 q615; cases e615; replace p615 := eq_true p615; replace q615 := eq_true q615
     go_wp2_with ((with_reducible refine gate_callee (f := 31) rfl ?_); refine gl 22 Try.func31 #[.slice A0 l0.length c0, .string (rdOf ByteArray.empty t612 x16_1)] ?_; (with_reducible refine (impl_MachineKnows.calls k1 _ _ l0 (rdOf ByteArray.empty t612 x16_1) false _ ?side1 ?side2 A14.out).mono ?_); (case side1 => exact cq (Kd.C_below HR0.out HB.out)); (case side2 => exact HC0.out); rintro e w19 ⟨rfl, hb⟩; refine ⟨_, rfl, ?_⟩; replace HO_5 := am (Kd.R_below (rq HO_5.out) hb); replace HO_14 := am (Kd.R_below (rq HO_14.out) hb); replace HB := am (below_step bel hb); clear hb)
     go_roundg k1
     case measure => have := HK1.out; omega
     case rel => exact ⟨(x5_1), (wrap64 (x16_1 + 1)), sq, H', ⟨b68_⟩, ⟨rq HO_5.out⟩, ⟨rq HO_14.out⟩, ⟨bel⟩⟩
    rw [if_neg c11] at H; have c11b0 := decide_eq_false c11; clear c11; obtain rfl := Option.some.inj H; go_wp2; go_ret
    exact ⟨_, eq_, by (with_reducible repeat (fail)); exact Kd.R_mono HO_5.out (fun _ hk => trivial), bel⟩
 replace c4 := Bool.eq_false_iff.mpr c4; subst c4
 rw [if_neg Bool.false_ne_true] at H
 obtain rfl := Option.some.inj H; go_enter Try.func22, Try.ntmps22
 go_wp2_with (first | ((with_reducible refine gate_dst (N := 8) rfl ?_); refine Kd.R_lit Kd.string _ 9 ?hg (N := 8) ?hd (xs := ([] : List ByteArray)) (inner := []) (ok := fun _ => True) (okp := fun _ => True) ?hr ?hp (fun _ hk => hk) trivial (Below.refl _ _) (Nat.le_refl _) (by simp) ?_; (case hd => rfl); (case hg => rfl); (case hr => (go_simp; done)); (case hp => exact (Reps.none _ _)); intro v609 w20 ho21 hb hg_ hnew_; clear hg_ hnew_; (rw [← Ny608.out] at ho21); have HO610 := am (Kd.R_lower ho21 (below_size bel)); replace HB := am (below_step bel hb); clear hb ho21) | ((with_reducible refine gate_callee (f := 69) rfl ?_); refine gl 10 Try.func69 #[.slice A0 l0.length c0] ?_; (with_reducible refine (impl_MachineOk.calls k _ _ l0 false _ ?side1 ?side2 A3.out).mono ?_); (case side1 => exact cq (Kd.C_below HR0.out HB.out)); (case side2 => exact HC0.out); rintro e w22 ⟨rfl, hb⟩; refine ⟨_, rfl, ?_⟩; replace HO610 := am (Kd.R_below (rq HO610.out) hb); replace HB := am (below_step bel hb); clear hb))
 go_ret
 exact ⟨_, eq_, by (with_reducible repeat (fail)); exact HO610.out, bel⟩

/-! ### laws_mdTexts: function 23 -/
def laws_mdTexts.l0 : Nat → List ByteArray → List ByteArray → Int → Option (Bool)
 | 0, _, _, _ => none
 | k + 1, x0, x1, x5 => if x5 < (x0.length : Int) then (if 0 ≤ x5 then (if x5 < (x1.length : Int) then (if (rdOf ByteArray.empty x0 x5).toList = (rdOf ByteArray.empty x1 x5).toList then (laws_mdTexts.l0 k x0 x1 (wrap64 (x5 + 1))) else (some false)) else (none)) else (none)) else (some true)
def laws_mdTexts.f (k : Nat) (l0 : List ByteArray) (l1 : List ByteArray) : Option (Bool) := if (l0.length : Int) = (l1.length : Int) then (laws_mdTexts.l0 k l0 l1 0) else (some false)
theorem laws_mdTexts.calls (k : Nat) (A0 : Option Addr) (c0 : Nat) (l0 : List ByteArray) (A1 : Option Addr) (c1 : Nat) (l1 : List ByteArray) (r : Bool) (w : World) (hr0 : Kd.C Kd.string w A0 l0.length l0) (hc0 : l0.length ≤ c0) (hr1 : Kd.C Kd.string w A1 l1.length l1) (hc1 : l1.length ≤ c1) (h : laws_mdTexts.f k l0 l1 = some r) :
  Calls Try.prog 23 #[.slice A0 l0.length c0, .slice A1 l1.length c1] w fun e w' => e = .returned (.bool r) ∧ Drawn0 w w' := by
 have HR0 := am hr0; have HC0 := am hc0; clear hr0 hc0; have HR1 := am hr1; have HC1 := am hc1; clear hr1 hc1
 have H := h; unfold laws_mdTexts.f at H
 clear h
 by_cases c3 : (l0.length : Int) = (l1.length : Int)
 ·rw [if_pos c3] at H
  have c3b0 : ((l0.length : Int) == (l1.length : Int)) = true := beq_iff_eq.mpr c3
  have c3b1 : ((l0.length : Int) != (l1.length : Int)) = false := bne_eq_false_iff_eq.mpr c3
  have c3b2 : (l0.length == l1.length) = true := b110_
  clear c3
  have H' := am H
  clear H; go_enter Try.func23, Try.ntmps23; go_wp2
  go_loopg [5] k (fun kq v5 w' => ∃ (x5_1 : Int), v5 = .int .i64 x5_1 ∧ Aside0 (laws_mdTexts.l0 kq l0 l1 x5_1 = some r) ∧ Aside0 (kq ≤ k) ∧ Drawn0 w w')
  case atStart => exact ⟨(0), sq, H', ⟨Nat.le_refl _⟩, dr⟩
  case round =>
   clear H'; clear c3b0 c3b1 c3b2; obtain ⟨x5_1, rfl, HA, HK1, ⟨m1, rfl⟩⟩ := hrel
   cases gk with
   | zero => exact absurd HA.out (by simp [laws_mdTexts.l0])
   | succ k1 =>
    have H := HA.out; clear HA; simp only [laws_mdTexts.l0] at H
    by_cases c4 : x5_1 < (l0.length : Int)
    ·rw [if_pos c4] at H; have c4b0 := decide_eq_true c4; clear c4
     replace H := it H; obtain ⟨c5b0, H⟩ := H; replace H := it H; obtain ⟨c6b0, H⟩ := H
     by_cases c7 : (rdOf ByteArray.empty l0 x5_1).toList = (rdOf ByteArray.empty l1 x5_1).toList
     ·rw [if_pos c7] at H
      have c7b0 : ((rdOf ByteArray.empty l0 x5_1).toList == (rdOf ByteArray.empty l1 x5_1).toList) = true := beq_iff_eq.mpr c7
      have c7b1 : ((rdOf ByteArray.empty l0 x5_1).toList != (rdOf ByteArray.empty l1 x5_1).toList) = false := bne_eq_false_iff_eq.mpr c7
      clear c7
      have H' := am H
      clear H
      have p620 : 0 ≤ (x5_1 : Int) := of_decide_eq_true ad
      have q620 : x5_1 < (l0.length : Int) := of_decide_eq_true ad
      obtain ⟨ad620, e620, hx620_0⟩ := Kd.at_string HR0.out x5_1 p620 q620; cases e620; replace p620 := eq_true p620; replace q620 := eq_true q620
      have p621 : 0 ≤ (x5_1 : Int) := of_decide_eq_true ad
      have q621 : x5_1 < (l1.length : Int) := of_decide_eq_true ad
      obtain ⟨ad621, e621, hx621_0⟩ := Kd.at_string HR1.out x5_1 p621 q621; cases e621
      replace p621 := eq_true p621; replace q621 := eq_true q621; go_wp2
      repeat (go_quiet (fail); try go_wp2)
      go_roundg k1
      case measure => have := HK1.out; omega
      case rel => exact ⟨(wrap64 (x5_1 + 1)), sq, H', ⟨b68_⟩, dr⟩
     rw [if_neg c7] at H
     have c7b0 : ((rdOf ByteArray.empty l0 x5_1).toList == (rdOf ByteArray.empty l1 x5_1).toList) = false := beq_eq_false_iff_ne.mpr c7
     have c7b1 : ((rdOf ByteArray.empty l0 x5_1).toList != (rdOf ByteArray.empty l1 x5_1).toList) = true := bne_iff_ne.mpr c7
     obtain rfl := Option.some.inj H
     have p620 : 0 ≤ (x5_1 : Int) := of_decide_eq_true ad
     have q620 : x5_1 < (l0.length : Int) := of_decide_eq_true ad
     obtain ⟨ad620, e620, hx620_0⟩ := Kd.at_string HR0.out x5_1 p620 q620; cases e620; replace p620 := eq_true p620; replace q620 := eq_true q620
     have p621 : 0 ≤ (x5_1 : Int) := of_decide_eq_true ad
     have q621 : x5_1 < (l1.length : Int) := of_decide_eq_true ad
     obtain ⟨ad621, e621, hx621_0⟩ := Kd.at_string HR1.out x5_1 p621 q621; cases e621
     replace p621 := eq_true p621; replace q621 := eq_true q621; go_wp2
     repeat (go_quiet (fail); try go_wp2)
     go_ret
     exact ⟨sq, dr⟩
    rw [if_neg c4] at H; have c4b0 := decide_eq_false c4; clear c4; obtain rfl := Option.some.inj H; go_wp2
    go_ret
    exact ⟨sq, dr⟩
 rw [if_neg c3] at H
 have c3b0 : ((l0.length : Int) == (l1.length : Int)) = false := beq_eq_false_iff_ne.mpr c3
 have c3b1 : ((l0.length : Int) != (l1.length : Int)) = true := bne_iff_ne.mpr c3
 have c3b2 : (l0.length == l1.length) = false := b110_
 obtain rfl := Option.some.inj H; go_enter Try.func23, Try.ntmps23; go_wp2
 go_ret
 exact ⟨sq, dr⟩

/-! ### spec_l3Go: function 73 -/
mutual
def spec_l3Go.l0 : Nat → List (S95) → ByteArray → Int → Int → Option (Int)
 | 0, _, _, _, _ => none
 | k + 1, x0, x1, x5, x6 => if x6 < (x1.size : Int) then (spec_l3Go.l1 k x0 x1 x5 x6 (-1) 0) else (some x5)
def spec_l3Go.l1 : Nat → List (S95) → ByteArray → Int → Int → Int → Int → Option (Int)
 | 0, _, _, _, _, _, _ => none
 | k + 1, x0, x1, x5, x6, x7, x8 => if 0 ≤ x5 then (if x5 < (x0.length : Int) then (if x8 < (((rd_T95 x0 x5).f1).length : Int) then (if 0 ≤ x8 then (if 0 ≤ x6 then (if x6 < (x1.size : Int) then (if ((rd_T97 ((rd_T95 x0 x5).f1) x8).f0) = (wrap64 (bt x1 x6)) then (spec_l3Go.l1 k x0 x1 x5 x6 ((rd_T97 ((rd_T95 x0 x5).f1) x8).f1) (wrap64 (x8 + 1))) else (spec_l3Go.l1 k x0 x1 x5 x6 x7 (wrap64 (x8 + 1)))) else (none)) else (none)) else (none)) else (if x7 < 0 then (some (-1)) else (spec_l3Go.l0 k x0 x1 x7 (wrap64 (x6 + 1))))) else (none)) else (none)
end
def spec_l3Go.f (k : Nat) (l0 : List (S95)) (a1 : ByteArray) : Option (Int) := spec_l3Go.l0 k l0 a1 0 0
theorem spec_l3Go.calls (k : Nat) (A0 : Option Addr) (c0 : Nat) (l0 : List (S95)) (a1 : ByteArray) (r : Int) (w : World) (hr0 : Kd.C k95 w A0 l0.length l0) (hc0 : l0.length ≤ c0) (h : spec_l3Go.f k l0 a1 = some r) :
  Calls Try.prog 73 #[.slice A0 l0.length c0, .string a1] w fun e w' => e = .returned (.int .i64 r) ∧ Drawn0 w w' := by
 have HR0 := am hr0; have HC0 := am hc0; clear hr0 hc0
 have H := h; unfold spec_l3Go.f at H
 clear h
 have H' := am H
 clear H; go_enter Try.func73, Try.ntmps73; go_wp2
 go_loopg [5, 6] k (fun kq v5 v6 w' => ∃ (x5_1 : Int) (x6_1 : Int), v5 = .int .i64 x5_1 ∧ v6 = .int .i64 x6_1 ∧ Aside0 (spec_l3Go.l0 kq l0 a1 x5_1 x6_1 = some r) ∧ Aside0 (kq ≤ k) ∧ Drawn0 w w')
 case atStart => exact ⟨(0), (0), sq, sq, H', ⟨Nat.le_refl _⟩, dr⟩
 case round =>
  clear H'; obtain ⟨x5_1, x6_1, rfl, rfl, HA, HK1, ⟨m1, rfl⟩⟩ := hrel
  cases gk with
  | zero => exact absurd HA.out (by simp [spec_l3Go.l0])
  | succ k1 =>
   have H := HA.out; clear HA; simp only [spec_l3Go.l0] at H
   by_cases c3 : x6_1 < (a1.size : Int)
   ·rw [if_pos c3] at H; have c3b0 := decide_eq_true c3; clear c3
    have H' := am H
    clear H; go_wp2
    go_loopg [7, 8] k1 (fun kq v7 v8 w' => ∃ (x7_2 : Int) (x8_2 : Int), v7 = .int .i64 x7_2 ∧ v8 = .int .i64 x8_2 ∧ Aside0 (spec_l3Go.l1 kq l0 a1 x5_1 x6_1 x7_2 x8_2 = some r) ∧ Aside0 (kq ≤ k1) ∧ Drawn0 w w')
    case atStart => exact ⟨((-1)), (0), sq, sq, H', ⟨Nat.le_refl _⟩, dr⟩
    case round =>
     clear H'; clear c3b0; obtain ⟨x7_2, x8_2, rfl, rfl, HA, HK2, ⟨m2, rfl⟩⟩ := hrel
     cases gk with
     | zero => exact absurd HA.out (by simp [spec_l3Go.l1])
     | succ k2 =>
      have H := HA.out; clear HA; simp only [spec_l3Go.l1] at H; replace H := it H; obtain ⟨c4b0, H⟩ := H; replace H := it H; obtain ⟨c5b0, H⟩ := H
      by_cases c6 : x8_2 < (((rd_T95 l0 x5_1).f1).length : Int)
      ·rw [if_pos c6] at H; have c6b0 := decide_eq_true c6; clear c6
       replace H := it H; obtain ⟨c7b0, H⟩ := H; replace H := it H; obtain ⟨c8b0, H⟩ := H; replace H := it H; obtain ⟨c9b0, H⟩ := H
       by_cases c11 : ((rd_T97 ((rd_T95 l0 x5_1).f1) x8_2).f0) = (wrap64 (bt a1 x6_1))
       ·rw [if_pos c11] at H
        have c11b0 : (((rd_T97 ((rd_T95 l0 x5_1).f1) x8_2).f0) == (wrap64 (bt a1 x6_1))) = true := beq_iff_eq.mpr c11
        have c11b1 : (((rd_T97 ((rd_T95 l0 x5_1).f1) x8_2).f0) != (wrap64 (bt a1 x6_1))) = false := bne_eq_false_iff_eq.mpr c11
        clear c11
        have H' := am H
        clear H
        have p622 : 0 ≤ (x5_1 : Int) := of_decide_eq_true ad
        have q622 : x5_1 < (l0.length : Int) := of_decide_eq_true ad
        obtain ⟨ad622, A622_1, c622_1, e622, hx622_0, hx622_1, hl622_1, hi622_1⟩ := at_T95 HR0.out x5_1 p622 q622; cases e622; have HR622_1 := am hi622_1; have HC622_1 := am hl622_1; clear hi622_1 hl622_1; replace p622 := eq_true p622; replace q622 := eq_true q622
        have p623 : 0 ≤ (x5_1 : Int) := of_decide_eq_true ad
        have q623 : x5_1 < (l0.length : Int) := of_decide_eq_true ad
        obtain ⟨ad623, A623_1, c623_1, e623, hx623_0, hx623_1, hl623_1, hi623_1⟩ := at_T95 HR0.out x5_1 p623 q623
        obtain rfl : ad622 = ad623 := (by injection e623)
        have HR623_1 := am hi623_1; have HC623_1 := am hl623_1; clear hi623_1 hl623_1; replace p623 := eq_true p623; replace q623 := eq_true q623; have ea_ := Option.some.inj (hx622_1.symm.trans hx623_1)
        injection ea_ with ea_ en_ ec_
        subst ea_; subst ec_; clear en_
        have p624 : 0 ≤ (x8_2 : Int) := of_decide_eq_true ad
        have q624 : x8_2 < (((rd_T95 l0 x5_1).f1).length : Int) := of_decide_eq_true ad
        obtain ⟨ad624, e624, hx624_0, hx624_1⟩ := at_T97 HR623_1.out x8_2 p624 q624; cases e624; replace p624 := eq_true p624; replace q624 := eq_true q624
        have p10 : 0 ≤ (x6_1 : Int) := of_decide_eq_true ad
        have q10 : x6_1 < (a1.size : Int) := of_decide_eq_true ad
        have hx10 := bt_at a1 x6_1; replace p10 := eq_true p10; replace q10 := eq_true q10
        have p625 : 0 ≤ (x5_1 : Int) := of_decide_eq_true ad
        have q625 : x5_1 < (l0.length : Int) := of_decide_eq_true ad
        obtain ⟨ad625, A625_1, c625_1, e625, hx625_0, hx625_1, hl625_1, hi625_1⟩ := at_T95 HR0.out x5_1 p625 q625
        obtain rfl : ad622 = ad625 := (by injection e625)
        have HR625_1 := am hi625_1; have HC625_1 := am hl625_1; clear hi625_1 hl625_1; replace p625 := eq_true p625; replace q625 := eq_true q625; have ea_ := Option.some.inj (hx622_1.symm.trans hx625_1)
        injection ea_ with ea_ en_ ec_
        subst ea_; subst ec_; clear en_
        have p626 : 0 ≤ (x8_2 : Int) := of_decide_eq_true ad
        have q626 : x8_2 < (((rd_T95 l0 x5_1).f1).length : Int) := of_decide_eq_true ad
        obtain ⟨ad626, e626, hx626_0, hx626_1⟩ := at_T97 HR625_1.out x8_2 p626 q626; cases e626
        replace p626 := eq_true p626; replace q626 := eq_true q626; go_wp2
        repeat (go_quiet (fail); try go_wp2)
        go_roundg k2
        case measure => have := HK1.out; have := HK2.out; omega
        case rel => exact ⟨((rd_T97 ((rd_T95 l0 x5_1).f1) x8_2).f1), (wrap64 (x8_2 + 1)), sq, sq, H', ⟨b30_⟩, dr⟩
       rw [if_neg c11] at H
       have c11b0 : (((rd_T97 ((rd_T95 l0 x5_1).f1) x8_2).f0) == (wrap64 (bt a1 x6_1))) = false := beq_eq_false_iff_ne.mpr c11
       have c11b1 : (((rd_T97 ((rd_T95 l0 x5_1).f1) x8_2).f0) != (wrap64 (bt a1 x6_1))) = true := bne_iff_ne.mpr c11
       have H' := am H
       clear H
       have p622 : 0 ≤ (x5_1 : Int) := of_decide_eq_true ad
       have q622 : x5_1 < (l0.length : Int) := of_decide_eq_true ad
       obtain ⟨ad622, A622_1, c622_1, e622, hx622_0, hx622_1, hl622_1, hi622_1⟩ := at_T95 HR0.out x5_1 p622 q622; cases e622; have HR622_1 := am hi622_1; have HC622_1 := am hl622_1; clear hi622_1 hl622_1; replace p622 := eq_true p622; replace q622 := eq_true q622
       have p623 : 0 ≤ (x5_1 : Int) := of_decide_eq_true ad
       have q623 : x5_1 < (l0.length : Int) := of_decide_eq_true ad
       obtain ⟨ad623, A623_1, c623_1, e623, hx623_0, hx623_1, hl623_1, hi623_1⟩ := at_T95 HR0.out x5_1 p623 q623
       obtain rfl : ad622 = ad623 := (by injection e623)
       have HR623_1 := am hi623_1; have HC623_1 := am hl623_1; clear hi623_1 hl623_1; replace p623 := eq_true p623; replace q623 := eq_true q623; have ea_ := Option.some.inj (hx622_1.symm.trans hx623_1)
       injection ea_ with ea_ en_ ec_
       subst ea_; subst ec_; clear en_
       have p624 : 0 ≤ (x8_2 : Int) := of_decide_eq_true ad
       have q624 : x8_2 < (((rd_T95 l0 x5_1).f1).length : Int) := of_decide_eq_true ad
       obtain ⟨ad624, e624, hx624_0, hx624_1⟩ := at_T97 HR623_1.out x8_2 p624 q624; cases e624; replace p624 := eq_true p624; replace q624 := eq_true q624
       have p10 : 0 ≤ (x6_1 : Int) := of_decide_eq_true ad
       have q10 : x6_1 < (a1.size : Int) := of_decide_eq_true ad
       have hx10 := bt_at a1 x6_1; replace p10 := eq_true p10; replace q10 := eq_true q10; go_wp2
       repeat (go_quiet (fail); try go_wp2)
       go_roundg k2
       case measure => have := HK1.out; have := HK2.out; omega
       case rel => exact ⟨(x7_2), (wrap64 (x8_2 + 1)), sq, sq, H', ⟨b30_⟩, dr⟩
      rw [if_neg c6] at H; have c6b0 := decide_eq_false c6; clear c6
      by_cases c12 : x7_2 < 0
      ·rw [if_pos c12] at H; have c12b0 := decide_eq_true c12; clear c12; obtain rfl := Option.some.inj H
       have p622 : 0 ≤ (x5_1 : Int) := of_decide_eq_true ad
       have q622 : x5_1 < (l0.length : Int) := of_decide_eq_true ad
       obtain ⟨ad622, A622_1, c622_1, e622, hx622_0, hx622_1, hl622_1, hi622_1⟩ := at_T95 HR0.out x5_1 p622 q622; cases e622
       have HR622_1 := am hi622_1; have HC622_1 := am hl622_1; clear hi622_1 hl622_1; replace p622 := eq_true p622; replace q622 := eq_true q622; go_wp2
       go_ret
       exact ⟨sq, dr⟩
      rw [if_neg c12] at H; have c12b0 := decide_eq_false c12; clear c12
      have H' := am H
      clear H
      have p622 : 0 ≤ (x5_1 : Int) := of_decide_eq_true ad
      have q622 : x5_1 < (l0.length : Int) := of_decide_eq_true ad
      obtain ⟨ad622, A622_1, c622_1, e622, hx622_0, hx622_1, hl622_1, hi622_1⟩ := at_T95 HR0.out x5_1 p622 q622; cases e622
      have HR622_1 := am hi622_1; have HC622_1 := am hl622_1; clear hi622_1 hl622_1; replace p622 := eq_true p622; replace q622 := eq_true q622; go_wp2
      go_roundg k2
      case measure => have := HK1.out; have := HK2.out; omega
      case rel => exact ⟨(x7_2), (wrap64 (x6_1 + 1)), sq, sq, H', ⟨b30_⟩, dr⟩
   rw [if_neg c3] at H; have c3b0 := decide_eq_false c3; clear c3; obtain rfl := Option.some.inj H; go_wp2
   go_ret
   exact ⟨sq, dr⟩
end Go.Proofs.Ytdfnijaacnlfaaa.QFnMachineGuesses
