import Derived.Test.YtfpmfaelodfecaaQFnMachineRankx0
import Derived.Test.YtfpmfaelodfecaaQFnMachineRankx5
import Derived.Test.YtfpmfaelodfecaaVMSh2
namespace Go.Proofs.Ytfpmfaelodfecaa.QFnMachineRank
open Go.RowKit Go.Proofs.YtfpmfaelodfecaaW.PrintWords Go.Proofs.YtfpmfaelodfecaaW.PrintLast Go.Proofs.YtfpmfaelodfecaaW.PrintMore Go.Proofs.Ytfpmfaelodfecaa.Sh
attribute [local go_sem] max2_int min2_int max_two min_two max_three min_three max_four min_four
set_option linter.unusedVariables false
set_option linter.unusedSimpArgs false
set_option maxHeartbeats 8000000
set_option maxRecDepth 100000
-- shrunk

/-! ### spec_l1Least: function 119 -/
def spec_l1Least.f (a0 : Int) (a1 : Int) : Option (Int) := if a0 < a1 then (some a0) else (some a1)
theorem spec_l1Least.calls (a0 : Int) (a1 : Int) (r : Int) (w : World) (h : spec_l1Least.f a0 a1 = some r) :
  Calls Try.prog 119 #[.int .i64 a0, .int .i64 a1] w fun e w' => e = .returned (.int .i64 r) ∧ Drawn0 w w' := by
 have H : (if a0 < a1 then (some a0) else (some a1)) = some r := h
 clear h
 by_cases c3 : a0 < a1
 ·rw [if_pos c3] at H; have c3b0 := decide_eq_true c3; clear c3; obtain rfl := Option.some.inj H; go_enter Try.func119, Try.ntmps119; go_wp2; go_ret
  exact ⟨sq, dr⟩
 rw [if_neg c3] at H; have c3b0 := decide_eq_false c3; clear c3; obtain rfl := Option.some.inj H; go_enter Try.func119, Try.ntmps119; go_wp2; go_ret
 exact ⟨sq, dr⟩

/-! ### spec_l3Counts: function 83 -/
mutual
def spec_l3Counts.l0 : Nat → List (S94) → List Int → Int → Option (List Int)
 | 0, _, _, _ => none
 | k + 1, x0, x3, x4 => if x4 ≥ 0 then (if 0 ≤ x4 then (if x4 < (x0.length : Int) then (if (rd_T94 x0 x4).f0 = true then (if x4 < (x3.length : Int) then (spec_l3Counts.j1 k x0 (x3.set (x4 : Int).toNat 1) x4) else (none)) else (spec_l3Counts.j1 k x0 x3 x4)) else (none)) else (none)) else (some x3)
def spec_l3Counts.j1 : Nat → List (S94) → List Int → Int → Option (List Int)
 | 0, _, _, _ => none
 | k + 1, x0, x3, x4 => spec_l3Counts.l1 k x0 x3 x4 0
def spec_l3Counts.l1 : Nat → List (S94) → List Int → Int → Int → Option (List Int)
 | 0, _, _, _, _ => none
 | k + 1, x0, x3, x4, x5 => if 0 ≤ x4 then (if x4 < (x0.length : Int) then (if x5 < (((rd_T94 x0 x4).f1).length : Int) then (if x4 < (x3.length : Int) then (if 0 ≤ x5 then (if 0 ≤ ((rd_T100 ((rd_T94 x0 x4).f1) x5).f1) then (if ((rd_T100 ((rd_T94 x0 x4).f1) x5).f1) < (x3.length : Int) then ((spec_l1Least.f (wrap64 ((rd x3 x4) + (rd x3 ((rd_T100 ((rd_T94 x0 x4).f1) x5).f1)))) 1000000000).bind fun t207 => (spec_l3Counts.l1 k x0 (x3.set (x4 : Int).toNat t207) x4 (wrap64 (x5 + 1)))) else (none)) else (none)) else (none)) else (none)) else (spec_l3Counts.l0 k x0 x3 (wrap64 (x4 - 1)))) else (none)) else (none)
end
def spec_l3Counts.f (k : Nat) (l0 : List (S94)) : Option (List Int) := if 0 ≤ (l0.length : Int) then (if l0.length ≤ 35184372088832 then (spec_l3Counts.l0 k l0 (List.replicate l0.length 0) (wrap64 ((l0.length : Int) - 1))) else (none)) else (none)
def spec_l3Counts.T10 : Bool × List (List Nat × List Nat) := (true, [([], []), ([], []), ([], []), ([], []), ([2, 3], [2, 3]), ([4], [4]), ([], []), ([], []), ([], []), ([7, 8], [7, 8]), ([9], [9]), ([10], [10]), ([], []), ([11, 12], [11, 12]), ([13], [13]), ([14], [14]), ([6, 15], [6, 15]), ([16], [16]), ([5, 17], [5, 17]), ([18], [18]), ([0, 1, 0, 1, 2, 3, 4, 5, 6, 7, 8, 9, 10, 11, 12, 13, 14, 15, 16, 17, 18, 19], [0, 1]), ([20, 19, 19, 0, 1, 2, 3, 4, 5, 6, 7, 8, 9, 10, 11, 12, 13, 14, 15, 16, 17, 18, 19], [19, 20])])
def spec_l3Counts.B10 : List Nat := [0, 0, 0, 0, 12, 28, 0, 0, 0, 384, 896, 1920, 0, 8064, 16256, 32640, 65472, 131008, 262140, 524284, 1048575, 2097151]
theorem spec_l3Counts.tab10 : rtab .any (opsOf Try.f83 10) = spec_l3Counts.T10 := by kernel_rfl
theorem spec_l3Counts.bits10 : waitsOk spec_l3Counts.T10.2 spec_l3Counts.B10 = true := by kernel_rfl
theorem spec_l3Counts.calls (k : Nat) (A0 : Option Addr) (c0 : Nat) (l0 : List (S94)) (r : List Int) (w : World) (hr0 : Kd.C k94 w A0 l0.length l0) (hc0 : l0.length ≤ c0) (h : spec_l3Counts.f k l0 = some r) :
  Calls Try.prog 83 #[.slice A0 l0.length c0] w fun e w' => ∃ v0_ : Value, e = .returned (v0_) ∧ Kd.R (Kd.int .i64) 3 w' w.heap.size (fun _ => True) v0_ r ∧ Below w.heap.size w w' := by
 have HR0 := am hr0; have HC0 := am hc0; clear hr0 hc0; have HB := am (Below.refl w.heap.size w)
 have H : (if 0 ≤ (l0.length : Int) then (if l0.length ≤ 35184372088832 then (spec_l3Counts.l0 k l0 (List.replicate l0.length 0) (wrap64 ((l0.length : Int) - 1))) else (none)) else (none)) = some r := h
 clear h
 replace H := ip H; obtain ⟨c2, H⟩ := H; have c2b0 := eq_true c2
 have c2b1 : decide (0 ≤ (l0.length : Int)) = true := decide_eq_true c2
 clear c2
 replace H := ip H; obtain ⟨c3, H⟩ := H; have c3b0 := eq_true c3
 have c3b1 : decide (l0.length ≤ 35184372088832) = true := decide_eq_true c3
 clear c3; obtain ⟨y197, hy197⟩ : ∃ y_ : List Int, y_ = (List.replicate l0.length 0) := ⟨_, rfl⟩
 replace H : (spec_l3Counts.l0 k l0 y197 (wrap64 ((l0.length : Int) - 1))) = some r := by first | (rw [hy197]; with_reducible exact H) | (have H2_ := bm H; rw [hy197]; with_reducible exact H2_) | (with_reducible exact bm H) | with_reducible exact H | (rw [hy197]; exact H) | exact H
 have Ny197 := am hy197; clear hy197
 have H' := am H
 clear H; go_enter Try.func83, Try.ntmps83
 go_wp2_with (first | ((with_reducible refine gate_dst (N := 8) rfl ?_); refine Kd.R_make (Kd.int .i64) _ 3 rfl (N := 8) rfl 86 _ _ rfl (l0.length : Int) rfl rfl Try.underlying86 (.int .i64 0) 8 info3 rfl (by decide) (by omega) 0 (ok := fun _ => True) (okp := fun _ => True) rfl (fun _ hk => hk) trivial (of_decide_eq_true ad) (Nat.le_trans (Nat.mul_le_mul_right _ (of_decide_eq_true ad : (l0.length : Int).toNat ≤ 35184372088832)) (by omega)) (Below.refl _ _) (Nat.le_refl _) ?_; intro v198 w4 ho5 hb hg_ hnew_; clear hg_ hnew_; (first | rw [← Ny197.out] at ho5 | (simp only [Int.reduceToNat] at ho5; rw [← Ny197.out] at ho5) | (simp only [Int.toNat_natCast] at ho5; rw [← Ny197.out] at ho5)); have HO199 := am (Kd.R_lower ho5 (below_size bel)); replace HB := am (below_step bel hb); clear hb ho5))
 go_loopg [4] k (fun kq v4 w' => ∃ (x3_1 : List Int) (x4_1 : Int), v4 = .int .i64 x4_1 ∧ Aside0 (spec_l3Counts.l0 kq l0 x3_1 x4_1 = some r) ∧ Aside0 (kq ≤ k) ∧ Aside0 (Kd.R (Kd.int .i64) 3 w' w.heap.size (fun _ => True) v198 x3_1) ∧ Aside0 (Below w.heap.size w w'))
 case atStart => exact ⟨(y197), (wrap64 ((l0.length : Int) - 1)), sq, H', ⟨Nat.le_refl _⟩, ⟨rq HO199.out⟩, ⟨bel⟩⟩
 case round =>
  clear H'; (try clear c2); (try clear c2b0); (try clear c2b1); (try clear p2); (try clear c3); (try clear c3b0); (try clear c3b1); obtain ⟨x3_1, x4_1, rfl, HA, HK1, HO_3, HB⟩ := hrel
  cases gk with
  | zero => exact absurd HA.out (by simp [spec_l3Counts.l0])
  | succ k1 =>
   have H := HA.out; clear HA
   simp only [spec_l3Counts.l0] at H
   by_cases c6 : x4_1 ≥ 0
   ·rw [if_pos c6] at H; have c6b0 := decide_eq_true c6; clear c6
    replace H := it H; obtain ⟨c7b0, H⟩ := H
    replace H := it H; obtain ⟨c8b0, H⟩ := H; have HC9 := am H; clear H
    have p200 : 0 ≤ (x4_1 : Int) := of_decide_eq_true ad
    have q200 : x4_1 < (l0.length : Int) := of_decide_eq_true ad
    obtain ⟨ad200, A200_1, c200_1, e200, hx200_0, hx200_1, hl200_1, hi200_1⟩ := at_T94 HR0.out x4_1 p200 q200
    cases e200
    replace hx200_0 := kp HB.out hx200_0; replace hx200_1 := kp HB.out hx200_1; have HR200_1 := am hi200_1; have HC200_1 := am hl200_1; clear hi200_1 hl200_1; replace p200 := eq_true p200; replace q200 := eq_true q200
    go_upto_if 20 with (fail)
    go_cut [] (fun wc => ∃ (kq : Nat) (x3_8 : List Int), Aside0 (spec_l3Counts.j1 kq l0 x3_8 x4_1 = some r) ∧ Aside0 (kq ≤ k1) ∧ Aside0 (Kd.R (Kd.int .i64) 3 wc w.heap.size (fun _ => True) v198 x3_8) ∧ Aside0 (Below w.heap.size w wc))
    case first =>
     have H := HC9.out; clear HC9; obtain ⟨bq10, hbq10⟩ : ∃ b_ : Bool, b_ = ((rd_T94 l0 x4_1).f0) := ⟨_, rfl⟩
     replace H : (if bq10 = true then (if x4_1 < (x3_1.length : Int) then (spec_l3Counts.j1 k1 l0 (x3_1.set (x4_1 : Int).toNat 1) x4_1) else (none)) else (spec_l3Counts.j1 k1 l0 x3_1 x4_1)) = some r := by rw [← hbq10] at H; exact H
     have Nbq10 := am hbq10; clear hbq10
     (try rw [← Nbq10.out])
     by_cases c11 : bq10 = true
     ·subst c11
      have H1 : (if x4_1 < (x3_1.length : Int) then (spec_l3Counts.j1 k1 l0 (x3_1.set (x4_1 : Int).toNat 1) x4_1) else (none)) = some r := b21_
      replace H := H1; clear H1
      replace H := it H; obtain ⟨c12b0, H⟩ := H; obtain ⟨y201, hy201⟩ : ∃ y_ : List Int, y_ = (x3_1.set (x4_1 : Int).toNat 1) := ⟨_, rfl⟩
      replace H : (spec_l3Counts.j1 k1 l0 y201 x4_1) = some r := by first | (rw [hy201]; with_reducible exact H) | (have H2_ := bm H; rw [hy201]; with_reducible exact H2_) | (with_reducible exact bm H) | with_reducible exact H | (rw [hy201]; exact H) | exact H
      have Ny201 := am hy201; clear hy201
      have H' := am H
      clear H
      have p13 : 0 ≤ (x4_1 : Int) := of_decide_eq_true ad
      have q13 : (x4_1 : Int) < ((x3_1.length : Int) : Int) := of_decide_eq_true ad
      obtain ⟨go13, co13, eo13, gb13, gl13, cl13, HG13⟩ := Kd.R_form HO_3.out (by omega)
      (first | cases eo13 | (injection eo13 with ea_ en_ ec_; (first | subst ea_ | (injection ea_ with ea_; subst ea_)); subst ec_; clear en_))
      have GB13 := Aside0.mk gb13; have GG13 := am HG13; clear gb13 gl13 HG13; obtain ⟨hx13_0, hf13_0⟩ := Kd.R_celln 0 HO_3.out (x4_1 : Int) p13 q13; replace p13 := eq_true p13; replace q13 := eq_true q13; have HP14 := Kd.R_putg HO_3.out (x4_1 : Int) 1
      go_wp2_with (first | ((with_reducible refine gate_store (t := 3) (p := 23) rfl ?_); refine store_event (t := 3) (p := 23) (v := ?vo_w15) (w1 := (wr.setCell ⟨go13, (x4_1 : Int).toNat, none⟩ (.int .i64 1))) ?hg ?ho ?hn ?hr ?_; (case ho => rfl); (case hg => rfl); (case hn => rfl); (case hr => first | (go_simp; done) | (go_simp; rfl)); intro w15 hw; have hg : wr.grownBy w15 (some go13) := (by rw [hw]; exact HP14.2); have hp_ : Kd.R (Kd.int .i64) 3 w15 w.heap.size (fun _ => True) (.slice (some ⟨go13, 0, none⟩) x3_1.length co13) y201 := (by rw [hw, Ny201.out]; exact HP14.1); clear HP14; replace HO_3 := am (hp_); replace HB := am ((by rw [hw]; exact below_set (HB.out) GB13.out : Below w.heap.size w w15)); clear hg hw hp_))
      go_meet
      case rel => exact ⟨_, (y201), H', ⟨b27_⟩, ⟨rq HO_3.out⟩, ⟨bel⟩⟩
     replace c11 := Bool.eq_false_iff.mpr c11; subst c11
     (try rw [← Nbq10.out] at hx200_0)
     (try rw [← Nbq10.out])
     have H1 : (spec_l3Counts.j1 k1 l0 x3_1 x4_1) = some r := b6_
     replace H := H1; clear H1
     have H' := am H
     clear H; go_wp2
     go_meet
     case rel => (try rw [← Nbq10.out]); exact ⟨_, (x3_1), H', ⟨b27_⟩, ⟨rq HO_3.out⟩, ⟨bel⟩⟩
    case rest =>
     clear HC9; (try clear c1); (try clear p1); (try clear q1); (try clear hx1); (try clear hf1); (try clear c2); (try clear c2b0); (try clear c2b1); (try clear p2); (try clear q2); (try clear hx2); (try clear c3); (try clear c3b0); (try clear c3b1); (try clear c6); (try clear c6b0); (try clear p6); (try clear c7); (try clear c7b0); (try clear c8); (try clear c8b0); (try clear q10); (try clear c11); (try clear c12); (try clear c12b0); (try clear p13); (try clear q13); (try clear hx13); (try clear hf13); (try clear hx13_0); (try clear hx200_0); (try clear hx200_1); (try clear p13); (try clear p2); (try clear p200); (try clear q13); (try clear q200); obtain ⟨kq, x3_8, HA, HJ8, HO_3, HB⟩ := hcut
     cases kq with
     | zero => exact absurd HA.out (by simp [spec_l3Counts.j1])
     | succ kj8 =>
      have H := HA.out; clear HA
      simp only [spec_l3Counts.j1] at H
      have H' := am H
      clear H; go_wp2
      go_loopg [5] kj8 (fun kq v5 w' => ∃ (x3_3 : List Int) (x5_3 : Int), v5 = .int .i64 x5_3 ∧ Aside0 (spec_l3Counts.l1 kq l0 x3_3 x4_1 x5_3 = some r) ∧ Aside0 (kq ≤ kj8) ∧ Aside0 (Kd.R (Kd.int .i64) 3 w' w.heap.size (fun _ => True) v198 x3_3) ∧ Aside0 (Below w.heap.size w w'))
      case atStart => exact ⟨(x3_8), (0), sq, H', ⟨Nat.le_refl _⟩, ⟨rq HO_3.out⟩, ⟨bel⟩⟩
      case round =>
       clear H'; (try clear c1); (try clear p1); (try clear q1); (try clear hx1); (try clear hf1); (try clear c2); (try clear c2b0); (try clear c2b1); (try clear p2); (try clear q2); (try clear hx2); (try clear c3); (try clear c3b0); (try clear c3b1); (try clear c6); (try clear c6b0); (try clear p6); (try clear c7); (try clear c7b0); (try clear c8); (try clear c8b0); (try clear q10); (try clear c11); (try clear c12); (try clear c12b0); (try clear p13); (try clear q13); (try clear hx13); (try clear hf13); (try clear hx13_0); (try clear hx200_0); (try clear hx200_1); (try clear p1); (try clear p13); (try clear p2); (try clear p200); (try clear p6); (try clear q1); (try clear q10); (try clear q13); (try clear q2); (try clear q200); obtain ⟨x3_3, x5_3, rfl, HA, HK3, HO_3, HB⟩ := hrel
       cases gk with
       | zero => exact absurd HA.out (by simp [spec_l3Counts.l1])
       | succ k3 =>
        have H := HA.out; clear HA
        simp only [spec_l3Counts.l1] at H
        replace H := it H; obtain ⟨c16b0, H⟩ := H
        replace H := it H; obtain ⟨c17b0, H⟩ := H
        by_cases c18 : x5_3 < (((rd_T94 l0 x4_1).f1).length : Int)
        ·rw [if_pos c18] at H; have c18b0 := decide_eq_true c18; clear c18
         replace H := it H; obtain ⟨c19b0, H⟩ := H
         replace H := it H; obtain ⟨c20b0, H⟩ := H
         replace H := it H; obtain ⟨c21b0, H⟩ := H
         replace H := it H; obtain ⟨c22b0, H⟩ := H; replace H := bs H; obtain ⟨t207, A230, H⟩ := H; replace H : (spec_l3Counts.l1 k3 l0 (x3_3.set (x4_1 : Int).toNat t207) x4_1 (wrap64 (x5_3 + 1))) = some r := H; have A23 := Aside0.mk A230; clear A230; obtain ⟨y208, hy208⟩ : ∃ y_ : List Int, y_ = (x3_3.set (x4_1 : Int).toNat t207) := ⟨_, rfl⟩
         replace H : (spec_l3Counts.l1 k3 l0 y208 x4_1 (wrap64 (x5_3 + 1))) = some r := by first | (rw [hy208]; with_reducible exact H) | (have H2_ := bm H; rw [hy208]; with_reducible exact H2_) | (with_reducible exact bm H) | with_reducible exact H | (rw [hy208]; exact H) | exact H
         have Ny208 := am hy208; clear hy208
         have H' := am H
         clear H
         have p202 : 0 ≤ (x4_1 : Int) := of_decide_eq_true ad
         have q202 : x4_1 < (l0.length : Int) := of_decide_eq_true ad
         obtain ⟨ad202, A202_1, c202_1, e202, hx202_0, hx202_1, hl202_1, hi202_1⟩ := at_T94 HR0.out x4_1 p202 q202
         obtain rfl : ad200 = ad202 := (by injection e202)
         replace hx202_0 := kp HB.out hx202_0; replace hx202_1 := kp HB.out hx202_1; have HR202_1 := am hi202_1; have HC202_1 := am hl202_1; clear hi202_1 hl202_1; replace p202 := eq_true p202; replace q202 := eq_true q202
         try go_wp2
         replace HO_3 := am (Kd.R_drew HO_3.out); replace HB := am (below_drew1 HB.out); obtain ⟨Ao26, co26, eo26⟩ := Kd.R_slice HO_3.out
         (first | subst eo26 | (injection eo26 with f1_ f2_ f3_; have f4_ := f1_.symm; have f5_ := f3_.symm; clear f1_ f2_ f3_; subst f4_; subst f5_))
         have p203 : 0 ≤ (x4_1 : Int) := of_decide_eq_true ad
         have q203 : x4_1 < (x3_3.length : Int) := of_decide_eq_true ad
         obtain ⟨ad203, e203, hx203_0⟩ := Kd.at_int (Kd.R_reads' HO_3.out).2.2 x4_1 p203 q203
         cases e203
         replace p203 := eq_true p203; replace q203 := eq_true q203
         have p204 : 0 ≤ (x4_1 : Int) := of_decide_eq_true ad
         have q204 : x4_1 < (l0.length : Int) := of_decide_eq_true ad
         obtain ⟨ad204, A204_1, c204_1, e204, hx204_0, hx204_1, hl204_1, hi204_1⟩ := at_T94 HR0.out x4_1 p204 q204; have hw204_1 := hx204_1; have hw204_0 := hx204_0
         obtain rfl : ad200 = ad204 := (by injection e204)
         replace hx204_0 := kp HB.out hx204_0; replace hx204_1 := kp HB.out hx204_1; have HR204_1 := am hi204_1; have HC204_1 := am hl204_1; clear hi204_1 hl204_1; replace p204 := eq_true p204; replace q204 := eq_true q204
         have p205 : 0 ≤ (x5_3 : Int) := of_decide_eq_true ad
         have q205 : x5_3 < (((rd_T94 l0 x4_1).f1).length : Int) := of_decide_eq_true ad
         obtain ⟨ad205, e205, hx205_0, hx205_1⟩ := at_T100 HR204_1.out x5_3 p205 q205; have hw205_1 := hx205_1; have hw205_0 := hx205_0
         cases e205
         replace hx205_0 := kp HB.out hx205_0; replace hx205_1 := kp HB.out hx205_1; replace p205 := eq_true p205; replace q205 := eq_true q205
         have p206 : 0 ≤ (((rd_T100 ((rd_T94 l0 x4_1).f1) x5_3).f1) : Int) := of_decide_eq_true ad
         have q206 : ((rd_T100 ((rd_T94 l0 x4_1).f1) x5_3).f1) < (x3_3.length : Int) := of_decide_eq_true ad
         obtain ⟨ad206, e206, hx206_0⟩ := Kd.at_int (Kd.R_reads' HO_3.out).2.2 ((rd_T100 ((rd_T94 l0 x4_1).f1) x5_3).f1) p206 q206
         obtain rfl : ad203 = ad206 := (by injection e206)
         replace p206 := eq_true p206; replace q206 := eq_true q206
         refine start_ (n := 22) (S := fun w' => w'.cell? (ad203.add (x4_1).toNat) = some (.int .i64 (rd x3_3 x4_1)) ∧ w'.cell? (ad200.add ((x4_1).toNat * 2)) = some (.bool ((rd_T94 l0 x4_1).f0)) ∧ w'.cell? ⟨(ad200.add ((x4_1).toNat * 2)).block, (ad200.add ((x4_1).toNat * 2)).off + 1, none⟩ = some (.slice (some ad205) ((rd_T94 l0 x4_1).f1).length c204_1) ∧ w'.cell? (ad205.add ((x5_3).toNat * 2)) = some (.int .i64 ((rd_T100 ((rd_T94 l0 x4_1).f1) x5_3).f0)) ∧ w'.cell? ⟨(ad205.add ((x5_3).toNat * 2)).block, (ad205.add ((x5_3).toNat * 2)).off + 1, none⟩ = some (.int .i64 ((rd_T100 ((rd_T94 l0 x4_1).f1) x5_3).f1)) ∧ w'.cell? (ad203.add (((rd_T100 ((rd_T94 l0 x4_1).f1) x5_3).f1)).toNat) = some (.int .i64 (rd x3_3 ((rd_T100 ((rd_T94 l0 x4_1).f1) x5_3).f1)))) (ds := [21]) #[false, false, false, false, false, false, false, false, false, false, false, false, false, false, false, false, false, false, false, false, false, false] (by kernel_rfl) rfl rfl ⟨hx203_0, (kp HB.out hw204_0), (kp HB.out hw204_1), (kp HB.out hw205_0), (kp HB.out hw205_1), hx206_0⟩ (fun hHeld => ?_); refine with_tabW spec_l3Counts.tab10 spec_l3Counts.bits10 (fun HT_ HW_ => ?_)
         generalize wr.drew = w25 at HO_3 HB HR204_1 hx203_0 hx204_0 hx204_1 hx205_0 hx205_1 hx206_0 hHeld ⊢
         refine pu 0 34 ?_
         refine pu 1 35 ?_
         refine pu 2 36 ?_
         refine pu 3 37 ?_
         refine pu 4 38 ?_
         refine pu 6 40 ?_
         refine pu 7 41 ?_
         refine pu 8 42 ?_
         refine pu 9 43 ?_
         refine pu 10 44 ?_
         refine pu 12 46 ?_
         refine tk6 5 39 hHeld ?_
         refine tk6 11 45 hHeld ?_
         refine pu 13 47 ?_
         refine pu 14 48 ?_
         refine tk6 15 49 hHeld ?_
         refine pu 16 50 ?_
         refine tk6 17 51 hHeld ?_
         refine pu 18 52 ?_
         refine on1 19 53 (fun K hK => ?_)
         refine goes_ Try.func119 (by kernel_rfl) rfl #[.int .i64 (wrap64 ((rd x3_3 x4_1) + (rd x3_3 ((rd_T100 ((rd_T94 l0 x4_1).f1) x5_3).f1)))), .int .i64 1000000000] (by rfl) rfl rfl mq ?_
         with_reducible refine (spec_l1Least.calls (wrap64 ((rd x3_3 x4_1) + (rd x3_3 ((rd_T100 ((rd_T94 l0 x4_1).f1) x5_3).f1)))) 1000000000 t207 _ A23.out).mono ?_
         rintro e w' ⟨rfl, ⟨nd, rfl⟩⟩
         refine ⟨_, rfl, ?_⟩
         have p24 : 0 ≤ (x4_1 : Int) := of_decide_eq_true ad
         have q24 : (x4_1 : Int) < ((x3_3.length : Int) : Int) := of_decide_eq_true ad
         obtain ⟨go24, co24, eo24, gb24, gl24, cl24, HG24⟩ := Kd.R_form HO_3.out (by omega)
         (first | cases eo24 | (injection eo24 with ea_ en_ ec_; (first | subst ea_ | (injection ea_ with ea_; subst ea_)); subst ec_; clear en_))
         have GB24 := Aside0.mk gb24; have GG24 := am HG24; clear gb24 gl24 HG24
         (first | simp only [add_plain] at hx203_0 | skip)
         (first | simp only [add_plain] at hx206_0 | skip)
         obtain ⟨hx24_0, hf24_0⟩ := Kd.R_celln 0 HO_3.out (x4_1 : Int) p24 q24; replace p24 := eq_true p24; replace q24 := eq_true q24; have HP27 := Kd.R_putn HO_3.out (x4_1 : Int) t207; rw [← Ny208.out] at HP27; have HQ27 := am HP27; clear HP27
         refine hK.out _ _ ⟨hHeld.1, (kp HB.out hw204_0), (kp HB.out hw204_1), (kp HB.out hw205_0), (kp HB.out hw205_1), hHeld.2.2.2.2.2⟩ (fun hHeld => ?_)
         clear hK K
         refine norm_ (a' := ?_) ?_ ?_
         rotate_left
         ·show Act.put _ (some 53) _ = _
          simp only [Act.put, List.setIfInBounds_toArray, List.set_cons_zero, List.set_cons_succ, i64_w, i32_w]
          rfl
         refine pu 20 54 ?_
         refine last_ (i := 21) (N := none) #[true, true, true, true, true, true, true, true, true, true, true, true, true, true, true, true, true, true, true, true, true, true] rfl rfl (one_of HT_.out (by kernel_rfl)) (by decide) (fun K hK => ?_)
         refine skip_ (w1 := ?_) (by rfl) rfl ?_ ?_
         rotate_left
         ·go_simp
          rfl
         refine hK.out _ _ ?_
         clear hK K
         refine done_ (done_of HT_.out (by kernel_rfl)) ?_
         try go_wp2
         go_roundg k3
         case measure => have := HK1.out; have := HJ8.out; have := HK3.out; omega
         case rel => exact ⟨(y208), (wrap64 (x5_3 + 1)), sq, H', ⟨b86_⟩, ⟨rq HQ27.out⟩, ⟨bel1 GB24.out⟩⟩
        rw [if_neg c18] at H; have c18b0 := decide_eq_false c18; clear c18
        have H' := am H
        clear H
        have p202 : 0 ≤ (x4_1 : Int) := of_decide_eq_true ad
        have q202 : x4_1 < (l0.length : Int) := of_decide_eq_true ad
        obtain ⟨ad202, A202_1, c202_1, e202, hx202_0, hx202_1, hl202_1, hi202_1⟩ := at_T94 HR0.out x4_1 p202 q202
        obtain rfl : ad200 = ad202 := (by injection e202)
        replace hx202_0 := kp HB.out hx202_0; replace hx202_1 := kp HB.out hx202_1; have HR202_1 := am hi202_1; have HC202_1 := am hl202_1; clear hi202_1 hl202_1; replace p202 := eq_true p202; replace q202 := eq_true q202; go_wp2
        go_roundg k3
        case measure => have := HK1.out; have := HJ8.out; have := HK3.out; omega
        case rel => exact ⟨(x3_3), (wrap64 (x4_1 - 1)), sq, H', ⟨b86_⟩, ⟨rq HO_3.out⟩, ⟨bel⟩⟩
   rw [if_neg c6] at H; have c6b0 := decide_eq_false c6; clear c6; obtain rfl := Option.some.inj H; go_wp2; go_ret
   exact ⟨_, eq_, b72_, bel⟩

/-! ### spec_l3Small: function 77 -/
def spec_l3Small.f (k : Nat) (l0 : List (S94)) : Option (Bool) := (spec_MachineOk.f k l0).bind fun t209 => (if t209 = true then ((spec_l3Counts.f k l0).bind fun t210 => (if 0 < (t210.length : Int) then (some (decide ((rd t210 0) < 1000000000))) else (none))) else (some false))
theorem spec_l3Small.calls (k : Nat) (A0 : Option Addr) (c0 : Nat) (l0 : List (S94)) (r : Bool) (w : World) (hr0 : Kd.C k94 w A0 l0.length l0) (hc0 : l0.length ≤ c0) (h : spec_l3Small.f k l0 = some r) :
  Calls Try.prog 77 #[.slice A0 l0.length c0] w fun e w' => e = .returned (.bool r) ∧ Below w.heap.size w w' := by
 have HR0 := am hr0; have HC0 := am hc0; clear hr0 hc0; have HB := am (Below.refl w.heap.size w)
 have H : ((spec_MachineOk.f k l0).bind fun t209 => (if t209 = true then ((spec_l3Counts.f k l0).bind fun t210 => (if 0 < (t210.length : Int) then (some (decide ((rd t210 0) < 1000000000))) else (none))) else (some false))) = some r := h
 clear h; replace H := bs H; obtain ⟨t209, A20, H⟩ := H; replace H : (if t209 = true then ((spec_l3Counts.f k l0).bind fun t210 => (if 0 < (t210.length : Int) then (some (decide ((rd t210 0) < 1000000000))) else (none))) else (some false)) = some r := H; have A2 := Aside0.mk A20; clear A20
 by_cases c3 : t209 = true
 ·subst c3
  have H1 : ((spec_l3Counts.f k l0).bind fun t210 => (if 0 < (t210.length : Int) then (some (decide ((rd t210 0) < 1000000000))) else (none))) = some r := b21_
  replace H := H1; clear H1
  replace H := bs H; obtain ⟨t210, A40, H⟩ := H; replace H : (if 0 < (t210.length : Int) then (some (decide ((rd t210 0) < 1000000000))) else (none)) = some r := H; have A4 := Aside0.mk A40; clear A40
  replace H := ip H; obtain ⟨c5, H⟩ := H; have c5b0 := decide_eq_true c5
  have c5b1 : decide (0 < t210.length) = true := decide_eq_true (by omega)
  clear c5; obtain rfl := Option.some.inj H; go_enter Try.func77, Try.ntmps77
  go_wp2_with (first | ((with_reducible refine gate_callee (f := 34) rfl ?_); refine goesL_ (some 4) rfl rfl Try.func34 (by kernel_rfl) rfl #[.slice A0 l0.length c0] rfl mq ?_; (with_reducible refine (spec_MachineOk.calls k _ _ l0 true _ ?side1 ?side2 A2.out).mono ?_); (case side1 => repeat (first | exact HR0.out | (with_reducible refine Kd.C_alloc ?_ _) | (with_reducible refine Kd.C_drewN ?_ _) | (with_reducible refine Kd.C_drew ?_))); (case side2 => exact HC0.out); rintro e w6 ⟨rfl, hb⟩; refine ⟨_, rfl, ?_⟩; replace HB := am (below_step bel hb); (try clear hb); (try clear hb2); (try clear hk); (try clear hi)) | (go_at_call 83; (with_reducible refine (spec_l3Counts.calls k _ _ l0 t210 _ ?side1 ?side2 A4.out).mono ?_); (case side1 => exact cq (Kd.C_below HR0.out HB.out)); (case side2 => exact HC0.out); rintro e w7 ⟨v211, rfl, ho0, hb⟩; have HO212 := am (Kd.R_lower ho0 (below_size bel)); replace HB := am (below_step bel hb); (try clear hb); (try clear hb2); (try clear hk); (try clear hi); (try clear ho0); obtain ⟨Ao8, co8, eo8⟩ := Kd.R_slice HO212.out; subst eo8; have p213 : 0 ≤ (0 : Int) := (by omega); have q213 : 0 < (t210.length : Int) := of_decide_eq_true ad; obtain ⟨ad213, e213, hx213_0⟩ := Kd.at_int (Kd.R_reads' HO212.out).2.2 0 p213 q213; cases e213; have qi213 : (0 < t210.length) = True := eq_true (by omega); (try rw [show ((0 : Int)).toNat = 0 from rfl] at hx213_0); (try rw [Addr.add_zero'] at hx213_0); replace p213 := eq_true p213; replace q213 := eq_true q213))
  go_ret
  exact ⟨eq_, bel⟩
 replace c3 := Bool.eq_false_iff.mpr c3; subst c3
 have H1 : (some false) = some r := b6_
 replace H := H1; clear H1
 obtain rfl := Option.some.inj H; go_enter Try.func77, Try.ntmps77
 go_wp2_with (first | ((with_reducible refine gate_callee (f := 34) rfl ?_); refine goesL_ (some 4) rfl rfl Try.func34 (by kernel_rfl) rfl #[.slice A0 l0.length c0] rfl mq ?_; (with_reducible refine (spec_MachineOk.calls k _ _ l0 false _ ?side1 ?side2 A2.out).mono ?_); (case side1 => repeat (first | exact HR0.out | (with_reducible refine Kd.C_alloc ?_ _) | (with_reducible refine Kd.C_drewN ?_ _) | (with_reducible refine Kd.C_drew ?_))); (case side2 => exact HC0.out); rintro e w9 ⟨rfl, hb⟩; refine ⟨_, rfl, ?_⟩; replace HB := am (below_step bel hb); (try clear hb); (try clear hb2); (try clear hk); (try clear hi)))
 go_ret
 exact ⟨eq_, bel⟩
-- shrunk

/-! ### spec_MachineWord: function 39 -/
mutual
def spec_MachineWord.j0 : Nat → List (S94) → Int → Bool → Option (ByteArray)
 | 0, _, _, _ => none
 | k + 1, x0, x1, x22 => if x22 = true then (some (⟨#[]⟩ : ByteArray)) else ((spec_l3Counts.f k x0).bind fun t220 => (spec_MachineWord.l0 k x0 x1 t220 0 (([] : List Int))))
def spec_MachineWord.l0 : Nat → List (S94) → Int → List Int → Int → List Int → Option (ByteArray)
 | 0, _, _, _, _, _ => none
 | k + 1, x0, x1, x5, x6, x7 => if 0 ≤ x6 then (if x6 < (x0.length : Int) then (if (rd_T94 x0 x6).f0 = true then (if x1 = 0 then (some (strOfNums x7)) else (spec_MachineWord.j2 k x0 (wrap64 (x1 - 1)) x5 x6 x7)) else (spec_MachineWord.j2 k x0 x1 x5 x6 x7)) else (none)) else (none)
def spec_MachineWord.j2 : Nat → List (S94) → Int → List Int → Int → List Int → Option (ByteArray)
 | 0, _, _, _, _, _ => none
 | k + 1, x0, x1, x5, x6, x7 => spec_MachineWord.l1 k x0 x1 x5 x6 x7 0
def spec_MachineWord.l1 : Nat → List (S94) → Int → List Int → Int → List Int → Int → Option (ByteArray)
 | 0, _, _, _, _, _, _ => none
 | k + 1, x0, x1, x5, x6, x7, x8 => if 0 ≤ x6 then (if x6 < (x0.length : Int) then (if x8 < (((rd_T94 x0 x6).f1).length : Int) then (if 0 ≤ x8 then (if 0 ≤ ((rd_T100 ((rd_T94 x0 x6).f1) x8).f1) then (if ((rd_T100 ((rd_T94 x0 x6).f1) x8).f1) < (x5.length : Int) then (if x1 < (rd x5 ((rd_T100 ((rd_T94 x0 x6).f1) x8).f1)) then (if x7.length < 140737488355328 then (spec_MachineWord.l0 k x0 x1 x5 ((rd_T100 ((rd_T94 x0 x6).f1) x8).f1) (x7 ++ [((rd_T100 ((rd_T94 x0 x6).f1) x8).f0) % 256])) else (none)) else (spec_MachineWord.l1 k x0 (wrap64 (x1 - (rd x5 ((rd_T100 ((rd_T94 x0 x6).f1) x8).f1)))) x5 x6 x7 (wrap64 (x8 + 1)))) else (none)) else (none)) else (none)) else (spec_MachineWord.l0 k x0 x1 x5 x6 x7)) else (none)) else (none)
end
def spec_MachineWord.f (k : Nat) (l0 : List (S94)) (a1 : Int) : Option (ByteArray) := (spec_l3Small.f k l0).bind fun t214 => (if t214 = true then ((spec_l3Counts.f k l0).bind fun t215 => (if 0 < (t215.length : Int) then ((spec_l1In.f a1 0 (wrap64 ((rd t215 0) - 1))).bind fun t219 => (spec_MachineWord.j0 k l0 a1 (!t219))) else (none))) else (spec_MachineWord.j0 k l0 a1 true))
theorem spec_MachineWord.calls (k : Nat) (A0 : Option Addr) (c0 : Nat) (l0 : List (S94)) (a1 : Int) (r : ByteArray) (w : World) (hr0 : Kd.C k94 w A0 l0.length l0) (hc0 : l0.length ≤ c0) (h : spec_MachineWord.f k l0 a1 = some r) :
  Calls Try.prog 39 #[.slice A0 l0.length c0, .int .i64 a1] w fun e w' => e = .returned (.string r) ∧ Below w.heap.size w w' := by
 have hu100 := Try.underlying100; have HR0 := am hr0; have HC0 := am hc0; clear hr0 hc0; have HB := am (Below.refl w.heap.size w)
 have H : ((spec_l3Small.f k l0).bind fun t214 => (if t214 = true then ((spec_l3Counts.f k l0).bind fun t215 => (if 0 < (t215.length : Int) then ((spec_l1In.f a1 0 (wrap64 ((rd t215 0) - 1))).bind fun t219 => (spec_MachineWord.j0 k l0 a1 (!t219))) else (none))) else (spec_MachineWord.j0 k l0 a1 true))) = some r := h
 clear h; have HC3 := am H; clear H; go_enter Try.func39, Try.ntmps39
 go_upto_region 1 with (fail)
 go_cut [22] (fun v22 wc => ∃ (kq : Nat) (x22_2 : Bool), v22 = .bool x22_2 ∧ Aside0 (spec_MachineWord.j0 kq l0 a1 x22_2 = some r) ∧ Aside0 (kq ≤ k) ∧ Aside0 (Below w.heap.size w wc))
 case first =>
  have H := HC3.out; clear HC3; replace H := bs H; obtain ⟨t214, A40, H⟩ := H; replace H : (if t214 = true then ((spec_l3Counts.f k l0).bind fun t215 => (if 0 < (t215.length : Int) then ((spec_l1In.f a1 0 (wrap64 ((rd t215 0) - 1))).bind fun t219 => (spec_MachineWord.j0 k l0 a1 (!t219))) else (none))) else (spec_MachineWord.j0 k l0 a1 true)) = some r := H; have A4 := Aside0.mk A40; clear A40
  by_cases c5 : t214 = true
  ·subst c5
   have H1 : ((spec_l3Counts.f k l0).bind fun t215 => (if 0 < (t215.length : Int) then ((spec_l1In.f a1 0 (wrap64 ((rd t215 0) - 1))).bind fun t219 => (spec_MachineWord.j0 k l0 a1 (!t219))) else (none))) = some r := b21_
   replace H := H1; clear H1
   replace H := bs H; obtain ⟨t215, A60, H⟩ := H; replace H : (if 0 < (t215.length : Int) then ((spec_l1In.f a1 0 (wrap64 ((rd t215 0) - 1))).bind fun t219 => (spec_MachineWord.j0 k l0 a1 (!t219))) else (none)) = some r := H; have A6 := Aside0.mk A60; clear A60
   replace H := ip H; obtain ⟨c7, H⟩ := H; have c7b0 := decide_eq_true c7
   have c7b1 : decide (0 < t215.length) = true := decide_eq_true (by omega)
   clear c7
   (first | rw [c7b0] | (simp only [i64_w, i32_w]; rw [c7b0]) | skip)
   replace H := bs H; obtain ⟨t219, A80, H⟩ := H; replace H : (spec_MachineWord.j0 k l0 a1 (!t219)) = some r := H; have A8 := Aside0.mk A80; clear A80
   have H' := am H
   clear H
   go_wp2_with (first | ((with_reducible refine gate_callee (f := 77) rfl ?_); refine goesL_ (some 11) rfl rfl Try.func77 (by kernel_rfl) rfl #[.slice A0 l0.length c0] rfl mq ?_; (with_reducible refine (spec_l3Small.calls k _ _ l0 true _ ?side1 ?side2 A4.out).mono ?_); (case side1 => exact cq (Kd.C_below HR0.out HB.out)); (case side2 => exact HC0.out); rintro e w9 ⟨rfl, hb⟩; refine ⟨_, rfl, ?_⟩; replace HB := am (below_step bel hb); (try clear hb); (try clear hb2); (try clear hk); (try clear hi)) | (go_at_call 83; (with_reducible refine (spec_l3Counts.calls k _ _ l0 t215 _ ?side1 ?side2 A6.out).mono ?_); (case side1 => exact cq (Kd.C_below HR0.out HB.out)); (case side2 => exact HC0.out); rintro e w10 ⟨v216, rfl, ho0, hb⟩; have HO217 := am (Kd.R_lower ho0 (below_size bel)); replace HB := am (below_step bel hb); (try clear hb); (try clear hb2); (try clear hk); (try clear hi); (try clear ho0); obtain ⟨Ao11, co11, eo11⟩ := Kd.R_slice HO217.out; subst eo11; have p218 : 0 ≤ (0 : Int) := (by omega); have q218 : 0 < (t215.length : Int) := of_decide_eq_true ad; obtain ⟨ad218, e218, hx218_0⟩ := Kd.at_int (Kd.R_reads' HO217.out).2.2 0 p218 q218; cases e218; have qi218 : (0 < t215.length) = True := eq_true (by omega); (try rw [show ((0 : Int)).toNat = 0 from rfl] at hx218_0); (try rw [Addr.add_zero'] at hx218_0); replace p218 := eq_true p218; replace q218 := eq_true q218) | (go_at_call 78; (with_reducible refine (spec_l1In.calls a1 0 (wrap64 ((rd t215 0) - 1)) t219 _ A8.out).mono ?_); rintro e w' ⟨rfl, ⟨nd, rfl⟩⟩))
   go_meet
   case rel => exact ⟨_, (!t219), sq, H', ⟨b59_⟩, ⟨bel⟩⟩
  replace c5 := Bool.eq_false_iff.mpr c5; subst c5
  have H1 : (spec_MachineWord.j0 k l0 a1 true) = some r := b6_
  replace H := H1; clear H1
  have H' := am H
  clear H
  go_wp2_with (first | ((with_reducible refine gate_callee (f := 77) rfl ?_); refine goesL_ (some 11) rfl rfl Try.func77 (by kernel_rfl) rfl #[.slice A0 l0.length c0] rfl mq ?_; (with_reducible refine (spec_l3Small.calls k _ _ l0 false _ ?side1 ?side2 A4.out).mono ?_); (case side1 => exact cq (Kd.C_below HR0.out HB.out)); (case side2 => exact HC0.out); rintro e w12 ⟨rfl, hb⟩; refine ⟨_, rfl, ?_⟩; replace HB := am (below_step bel hb); (try clear hb); (try clear hb2); (try clear hk); (try clear hi)))
  go_meet
  case rel => exact ⟨_, (true), sq, H', ⟨b59_⟩, ⟨bel⟩⟩
 case rest =>
  clear HC3; (try clear p2); (try clear q2); (try clear hx2); (try clear qi2); (try clear c3); (try clear c5); (try clear p6); (try clear c7); (try clear c7b0); (try clear c7b1); (try clear hx218_0); (try clear p218); (try clear q218); obtain ⟨kq, x22_2, rfl, HA, HJ2, HB⟩ := hcut
  cases kq with
  | zero => exact absurd HA.out (by simp [spec_MachineWord.j0])
  | succ kj2 =>
   have H := HA.out; clear HA
   simp only [spec_MachineWord.j0] at H
   by_cases c13 : x22_2 = true
   ·subst c13
    have H1 : (some (⟨#[]⟩ : ByteArray)) = some r := b21_
    replace H := H1; clear H1
    obtain rfl := Option.some.inj H; go_wp2; go_ret
    exact ⟨eq_, bel⟩
   replace c13 := Bool.eq_false_iff.mpr c13; subst c13
   have H1 : ((spec_l3Counts.f kj2 l0).bind fun t220 => (spec_MachineWord.l0 kj2 l0 a1 t220 0 (([] : List Int)))) = some r := b6_
   replace H := H1; clear H1
   replace H := bs H; obtain ⟨t220, A140, H⟩ := H; replace H : (spec_MachineWord.l0 kj2 l0 a1 t220 0 (([] : List Int))) = some r := H; have A14 := Aside0.mk A140; clear A140; obtain ⟨y223, hy223⟩ : ∃ y_ : List Int, y_ = (([] : List Int)) := ⟨_, rfl⟩
   replace H : (spec_MachineWord.l0 kj2 l0 a1 t220 0 y223) = some r := by first | (rw [hy223]; with_reducible exact H) | (have H2_ := bm H; rw [hy223]; with_reducible exact H2_) | (with_reducible exact bm H) | with_reducible exact H | (rw [hy223]; exact H) | exact H
   have Ny223 := am hy223; clear hy223
   have H' := am H
   clear H
   go_wp2_with (first | ((with_reducible refine gate_callee (f := 83) rfl ?_); refine goesL_ (some 24) rfl rfl Try.func83 (by kernel_rfl) rfl #[.slice A0 l0.length c0] rfl mq ?_; (with_reducible refine (spec_l3Counts.calls kj2 _ _ l0 t220 _ ?side1 ?side2 A14.out).mono ?_); (case side1 => exact cq (Kd.C_below HR0.out HB.out)); (case side2 => exact HC0.out); rintro e w15 ⟨v221, rfl, ho0, hb⟩; refine ⟨_, rfl, ?_⟩; have HO222 := am (Kd.R_lower ho0 (below_size bel)); replace HB := am (below_step bel hb); (try clear hb); (try clear hb2); (try clear hk); (try clear hi); (try clear ho0)) | ((with_reducible refine gate_dst (N := 25) rfl ?_); refine Kd.R_lit (Kd.int .u8) _ 5 ?hg (N := 25) ?hd (xs := ([] : List Int)) (inner := []) (ok := fun _ => True) (okp := fun _ => True) ?hr ?hp (fun _ hk => hk) trivial (Below.refl _ _) (Nat.le_refl _) (by simp) ?_; (case hd => rfl); (case hg => rfl); (case hr => first | (go_simp; done) | (go_simp; rfl)); (case hp => exact (Reps.none _ _)); intro v224 w16 ho17 hb hg_ hnew_; clear hg_ hnew_; (first | rw [← Ny223.out] at ho17 | (simp only [Int.reduceToNat] at ho17; rw [← Ny223.out] at ho17) | (simp only [Int.toNat_natCast] at ho17; rw [← Ny223.out] at ho17)); replace HO222 := am (Kd.R_below (rq HO222.out) hb); have HO225 := am (Kd.R_lower ho17 (below_size bel)); replace HB := am (below_step bel hb); clear hb ho17))
   go_loopg [1, 6, 7] kj2 (fun kq v1 v6 v7 w' => ∃ (x1_2 : Int) (x6_2 : Int) (x7_2 : List Int), v1 = .int .i64 x1_2 ∧ v6 = .int .i64 x6_2 ∧ Aside0 (spec_MachineWord.l0 kq l0 x1_2 t220 x6_2 x7_2 = some r) ∧ Aside0 (kq ≤ kj2) ∧ Aside0 (Kd.R (Kd.int .i64) 3 w' w.heap.size (fun _ => True) v221 t220) ∧ Aside0 (Kd.R (Kd.int .u8) 5 w' w.heap.size (fun _ => True) v7 x7_2) ∧ Aside0 (Below w.heap.size w w'))
   case atStart => exact ⟨(a1), (0), (y223), sq, sq, H', ⟨Nat.le_refl _⟩, ⟨rq HO222.out⟩, ⟨rq HO225.out⟩, ⟨bel⟩⟩
   case round =>
    clear H'; (try clear c1); (try clear p2); (try clear q2); (try clear hx2); (try clear qi2); (try clear c3); (try clear c5); (try clear p6); (try clear c7); (try clear c7b0); (try clear c7b1); (try clear c8); (try clear c13); (try clear hx218_0); (try clear p2); (try clear p218); (try clear p6); (try clear q2); (try clear q218); obtain ⟨x1_2, x6_2, x7_2, rfl, rfl, HA, HK2, HO_5, HO_7, HB⟩ := hrel
    cases gk with
    | zero => exact absurd HA.out (by simp [spec_MachineWord.l0])
    | succ k2 =>
     have H := HA.out; clear HA
     simp only [spec_MachineWord.l0] at H
     replace H := it H; obtain ⟨c18b0, H⟩ := H
     replace H := it H; obtain ⟨c19b0, H⟩ := H; have HC20 := am H; clear H
     have p226 : 0 ≤ (x6_2 : Int) := of_decide_eq_true ad
     have q226 : x6_2 < (l0.length : Int) := of_decide_eq_true ad
     obtain ⟨ad226, A226_1, c226_1, e226, hx226_0, hx226_1, hl226_1, hi226_1⟩ := at_T94 HR0.out x6_2 p226 q226
     cases e226
     replace hx226_0 := kp HB.out hx226_0; replace hx226_1 := kp HB.out hx226_1; have HR226_1 := am hi226_1; have HC226_1 := am hl226_1; clear hi226_1 hl226_1; replace p226 := eq_true p226; replace q226 := eq_true q226
     go_upto_if 30 with (fail)
     go_cut [1] (fun v1 wc => ∃ (kq : Nat) (x1_19 : Int), v1 = .int .i64 x1_19 ∧ Aside0 (spec_MachineWord.j2 kq l0 x1_19 t220 x6_2 x7_2 = some r) ∧ Aside0 (kq ≤ k2) ∧ Aside0 (Kd.R (Kd.int .i64) 3 wc w.heap.size (fun _ => True) v221 t220) ∧ Aside0 (Kd.R (Kd.int .u8) 5 wc w.heap.size (fun _ => True) u7 x7_2) ∧ Aside0 (Below w.heap.size w wc))
     case first =>
      have H := HC20.out; clear HC20; obtain ⟨bq21, hbq21⟩ : ∃ b_ : Bool, b_ = ((rd_T94 l0 x6_2).f0) := ⟨_, rfl⟩
      replace H : (if bq21 = true then (if x1_2 = 0 then (some (strOfNums x7_2)) else (spec_MachineWord.j2 k2 l0 (wrap64 (x1_2 - 1)) t220 x6_2 x7_2)) else (spec_MachineWord.j2 k2 l0 x1_2 t220 x6_2 x7_2)) = some r := by rw [← hbq21] at H; exact H
      have Nbq21 := am hbq21; clear hbq21
      (try rw [← Nbq21.out])
      by_cases c22 : bq21 = true
      ·subst c22
       have H1 : (if x1_2 = 0 then (some (strOfNums x7_2)) else (spec_MachineWord.j2 k2 l0 (wrap64 (x1_2 - 1)) t220 x6_2 x7_2)) = some r := b21_
       replace H := H1; clear H1
       by_cases c23 : x1_2 = 0
       ·rw [if_pos c23] at H
        have c23b0 : (x1_2 == 0) = true := beq_iff_eq.mpr c23
        have c23b1 : (x1_2 != 0) = false := bne_eq_false_iff_eq.mpr c23
        clear c23; obtain rfl := Option.some.inj H; have hcv24 := own_string (P := Try.prog) Try.underlying31 Try.underlying5 Try.underlying9 (Kd.own_of_R HO_7.out); go_wp2; go_ret
        exact ⟨eq_, bel⟩
       rw [if_neg c23] at H
       have c23b0 : (x1_2 == 0) = false := beq_eq_false_iff_ne.mpr c23
       have c23b1 : (x1_2 != 0) = true := bne_iff_ne.mpr c23
       have H' := am H
       clear H; go_wp2
       go_meet
       case rel => exact ⟨_, (wrap64 (x1_2 - 1)), sq, H', ⟨b82_⟩, ⟨rq HO_5.out⟩, ⟨rq HO_7.out⟩, ⟨bel⟩⟩
      replace c22 := Bool.eq_false_iff.mpr c22; subst c22
      (try rw [← Nbq21.out] at hx226_0)
      (try rw [← Nbq21.out])
      have H1 : (spec_MachineWord.j2 k2 l0 x1_2 t220 x6_2 x7_2) = some r := b6_
      replace H := H1; clear H1
      have H' := am H
      clear H; go_wp2
      go_meet
      case rel => (try rw [← Nbq21.out]); exact ⟨_, (x1_2), sq, H', ⟨b82_⟩, ⟨rq HO_5.out⟩, ⟨rq HO_7.out⟩, ⟨bel⟩⟩
     case rest =>
      clear HC20; (try clear c1); (try clear c2); (try clear p2); (try clear q2); (try clear hx2); (try clear hcv2); (try clear qi2); (try clear c3); (try clear c5); (try clear p6); (try clear c7); (try clear c7b0); (try clear c7b1); (try clear c8); (try clear c13); (try clear c18); (try clear c18b0); (try clear c19); (try clear c19b0); (try clear p21); (try clear q21); (try clear hx21); (try clear qi21); (try clear c22); (try clear p22); (try clear q22); (try clear hx22); (try clear c23); (try clear c23b0); (try clear c23b1); (try clear hcv24); (try clear hx218_0); (try clear hx226_0); (try clear hx226_1); (try clear p2); (try clear p218); (try clear p226); (try clear p6); (try clear q2); (try clear q218); (try clear q226); obtain ⟨kq, x1_19, rfl, HA, HJ19, HO_5, HO_7, HB⟩ := hcut
      cases kq with
      | zero => exact absurd HA.out (by simp [spec_MachineWord.j2])
      | succ kj19 =>
       have H := HA.out; clear HA
       simp only [spec_MachineWord.j2] at H
       have H' := am H
       clear H; go_wp2
       go_loopg [1, 6, 7, 8] kj19 (fun kq v1 v6 v7 v8 w' => ∃ (x1_4 : Int) (x6_4 : Int) (x7_4 : List Int) (x8_4 : Int), v1 = .int .i64 x1_4 ∧ v6 = .int .i64 x6_4 ∧ v8 = .int .i64 x8_4 ∧ Aside0 (spec_MachineWord.l1 kq l0 x1_4 t220 x6_4 x7_4 x8_4 = some r) ∧ Aside0 (kq ≤ kj19) ∧ Aside0 (Kd.R (Kd.int .i64) 3 w' w.heap.size (fun _ => True) v221 t220) ∧ Aside0 (Kd.R (Kd.int .u8) 5 w' w.heap.size (fun _ => True) v7 x7_4) ∧ Aside0 (Below w.heap.size w w'))
       case atStart => exact ⟨(x1_19), (x6_2), (x7_2), (0), sq, sq, sq, H', ⟨Nat.le_refl _⟩, ⟨rq HO_5.out⟩, ⟨rq HO_7.out⟩, ⟨bel⟩⟩
       case round =>
        clear H'; (try clear c1); (try clear c2); (try clear p2); (try clear q2); (try clear hx2); (try clear hcv2); (try clear qi2); (try clear c3); (try clear c5); (try clear p6); (try clear c7); (try clear c7b0); (try clear c7b1); (try clear c8); (try clear c13); (try clear c18); (try clear c18b0); (try clear c19); (try clear c19b0); (try clear p21); (try clear q21); (try clear hx21); (try clear qi21); (try clear c22); (try clear p22); (try clear q22); (try clear hx22); (try clear c23); (try clear c23b0); (try clear c23b1); (try clear hcv24); (try clear hx218_0); (try clear hx226_0); (try clear hx226_1); (try clear p2); (try clear p21); (try clear p218); (try clear p22); (try clear p226); (try clear p6); (try clear q2); (try clear q21); (try clear q218); (try clear q22); (try clear q226); obtain ⟨x1_4, x6_4, x7_4, x8_4, rfl, rfl, rfl, HA, HK4, HO_5, HO_7, HB⟩ := hrel
        cases gk with
        | zero => exact absurd HA.out (by simp [spec_MachineWord.l1])
        | succ k4 =>
         have H := HA.out; clear HA
         simp only [spec_MachineWord.l1] at H
         replace H := it H; obtain ⟨c25b0, H⟩ := H
         replace H := it H; obtain ⟨c26b0, H⟩ := H
         by_cases c27 : x8_4 < (((rd_T94 l0 x6_4).f1).length : Int)
         ·rw [if_pos c27] at H; have c27b0 := decide_eq_true c27; clear c27
          replace H := it H; obtain ⟨c28b0, H⟩ := H
          replace H := it H; obtain ⟨c29b0, H⟩ := H
          replace H := it H; obtain ⟨c30b0, H⟩ := H
          by_cases c31 : x1_4 < (rd t220 ((rd_T100 ((rd_T94 l0 x6_4).f1) x8_4).f1))
          ·rw [if_pos c31] at H; have c31b0 := decide_eq_true c31; clear c31
           replace H := ip H; obtain ⟨c32, H⟩ := H; have LMc32 := Aside0.mk c32; clear c32; obtain ⟨y232, hy232⟩ : ∃ y_ : List Int, y_ = (x7_4 ++ [((rd_T100 ((rd_T94 l0 x6_4).f1) x8_4).f0) % 256]) := ⟨_, rfl⟩
           replace H : (spec_MachineWord.l0 k4 l0 x1_4 t220 ((rd_T100 ((rd_T94 l0 x6_4).f1) x8_4).f1) y232) = some r := by first | (rw [hy232]; with_reducible exact H) | (have H2_ := bm H; rw [hy232]; with_reducible exact H2_) | (with_reducible exact bm H) | with_reducible exact H | (rw [hy232]; exact H) | exact H
           have Ny232 := am hy232; clear hy232
           have H' := am H
           clear H
           have p227 : 0 ≤ (x6_4 : Int) := of_decide_eq_true ad
           have q227 : x6_4 < (l0.length : Int) := of_decide_eq_true ad
           obtain ⟨ad227, A227_1, c227_1, e227, hx227_0, hx227_1, hl227_1, hi227_1⟩ := at_T94 HR0.out x6_4 p227 q227
           obtain rfl : ad226 = ad227 := (by injection e227)
           replace hx227_0 := kp HB.out hx227_0; replace hx227_1 := kp HB.out hx227_1; have HR227_1 := am hi227_1; have HC227_1 := am hl227_1; clear hi227_1 hl227_1; replace p227 := eq_true p227; replace q227 := eq_true q227
           have p228 : 0 ≤ (x6_4 : Int) := of_decide_eq_true ad
           have q228 : x6_4 < (l0.length : Int) := of_decide_eq_true ad
           obtain ⟨ad228, A228_1, c228_1, e228, hx228_0, hx228_1, hl228_1, hi228_1⟩ := at_T94 HR0.out x6_4 p228 q228
           obtain rfl : ad226 = ad228 := (by injection e228)
           replace hx228_0 := kp HB.out hx228_0; replace hx228_1 := kp HB.out hx228_1; have HR228_1 := am hi228_1; have HC228_1 := am hl228_1; clear hi228_1 hl228_1; replace p228 := eq_true p228; replace q228 := eq_true q228; have ea_ := Option.some.inj (hx227_1.symm.trans hx228_1)
           injection ea_ with ea_ en_ ec_
           subst ea_; subst ec_; clear en_
           have p229 : 0 ≤ (x8_4 : Int) := of_decide_eq_true ad
           have q229 : x8_4 < (((rd_T94 l0 x6_4).f1).length : Int) := of_decide_eq_true ad
           obtain ⟨ad229, e229, hx229_0, hx229_1⟩ := at_T100 HR228_1.out x8_4 p229 q229
           cases e229
           replace hx229_0 := kp HB.out hx229_0; replace hx229_1 := kp HB.out hx229_1; replace p229 := eq_true p229; replace q229 := eq_true q229
           go_wp2_with (first | ((with_reducible refine gate_dst (N := 9) rfl ?_); refine bx 9 (cs := #[.int .i64 0, .int .i64 0]) (t := 100) ?_; intro gb230 hg w33 hbox hb; replace HO_5 := am (Kd.R_below (rq HO_5.out) hb); replace HO_7 := am (Kd.R_below (rq HO_7.out) hb); have BK230 := am (hbox); have GW230 := am ((b7_ : w.heap.size ≤ gb230)); have GE230 := am ((b7_ : w.heap.size ≤ gb230)); replace HB := am (below_step bel hb); clear hb hbox hg; have hcz34_0 := bc BK230.out 0; have hcz34_1 := bc BK230.out 1; have hfz34_0 := bf BK230.out 0; have hfz34_1 := bf BK230.out 1; obtain ⟨Ao35, co35, eo35⟩ := Kd.R_slice HO_5.out; subst eo35; have p231 : 0 ≤ (((rd_T100 ((rd_T94 l0 x6_4).f1) x8_4).f1) : Int) := of_decide_eq_true ad; have q231 : ((rd_T100 ((rd_T94 l0 x6_4).f1) x8_4).f1) < (t220.length : Int) := of_decide_eq_true ad; obtain ⟨ad231, e231, hx231_0⟩ := Kd.at_int (Kd.R_reads' HO_5.out).2.2 ((rd_T100 ((rd_T94 l0 x6_4).f1) x8_4).f1) p231 q231; cases e231; have hn231_0 : ad231.block ≠ gb230 := Kd.own_blk (Kd.R_ne HO_5.out BK230.out (by decide)); have hn231_1 : ad231.block ≠ gb230 := Kd.own_blk (Kd.R_ne HO_5.out BK230.out (by decide)); replace hx231_0 := (cell_far (p := ⟨gb230, 0, none⟩) (by first | (rw [add_block]; exact hn231_0) | (show (Addr.add _ _).block ≠ _; rw [add_block]; exact hn231_0) | exact hn231_0) (.int .i64 ((rd_T100 ((rd_T94 l0 x6_4).f1) x8_4).f0))).trans hx231_0; replace hx231_0 := (cell_far (p := ⟨gb230, 1, none⟩) (by first | (rw [add_block]; exact hn231_1) | (show (Addr.add _ _).block ≠ _; rw [add_block]; exact hn231_1) | exact hn231_1) (.int .i64 ((rd_T100 ((rd_T94 l0 x6_4).f1) x8_4).f1))).trans hx231_0; clear hn231_0; clear hn231_1; replace p231 := eq_true p231; replace q231 := eq_true q231) | ((with_reducible refine gate_builtin (b := .append) (xs := #[.tmp 62, .tmp 66]) rfl ?_); at_builtin; refine Kd.R_append (Kd.int .u8) (w0 := w) w.heap.size rfl (.tmp 62) (.tmp 66) 31 5 (.int .u8 0) 1 rfl Try.underlying31 info5 rfl (by decide) (by omega) u7 x7_4 (((rd_T100 ((rd_T94 l0 x6_4).f1) x8_4).f0) % 256) [.int .u8 (((rd_T100 ((rd_T94 l0 x6_4).f1) x8_4).f0) % 256)] (fun _ => True) (fun _ => False) rfl (by first | (go_simp; done) | (go_simp; rfl)) ?aP (fun _ hk => hk.elim) ?aF ?aO ?aB ?aS ?aL ?_; (case aP => exact rfl); (case aB => exact (bel1 GE230.out)); (case aF => exact (fun _ _ => trivial)); (case aO => exact (rq (Kd.R_mono (Kd.R_far (p := ⟨gb230, 1, none⟩) (Kd.R_far (p := ⟨gb230, 0, none⟩) (Kd.R_types HO_7.out BK230.out (by decide)) (fun _ hk => hk.2) (.int .i64 ((rd_T100 ((rd_T94 l0 x6_4).f1) x8_4).f0))) (fun _ hk => hk.2) (.int .i64 ((rd_T100 ((rd_T94 l0 x6_4).f1) x8_4).f1))) (fun _ hk => trivial)))); (case aS => exact (below_size (bel1 GE230.out))); (case aL => have := LMc32.out; omega); intro v233 w36 ho hb hg hat; rw [← Ny232.out] at ho; replace HO_5 := am (Kd.R_over' (rq ((Kd.R_mono (Kd.R_far (p := ⟨gb230, 1, none⟩) (Kd.R_far (p := ⟨gb230, 0, none⟩) (Kd.R_types HO_5.out BK230.out (by decide)) (fun _ hk => hk.2) (.int .i64 ((rd_T100 ((rd_T94 l0 x6_4).f1) x8_4).f0))) (fun _ hk => hk.2) (.int .i64 ((rd_T100 ((rd_T94 l0 x6_4).f1) x8_4).f1))) (fun _ h_ => h_.1)))) (Kd.R_typed (rq ((Kd.R_mono (Kd.R_far (p := ⟨gb230, 1, none⟩) (Kd.R_far (p := ⟨gb230, 0, none⟩) (Kd.R_types HO_7.out BK230.out (by decide)) (fun _ hk => hk.2) (.int .i64 ((rd_T100 ((rd_T94 l0 x6_4).f1) x8_4).f0))) (fun _ hk => hk.2) (.int .i64 ((rd_T100 ((rd_T94 l0 x6_4).f1) x8_4).f1))) (fun _ h_ => h_.1))))) (by decide) hg); replace BK230 := am (blk_grown (g := gb230) (o := .cells #[.int .i64 ((rd_T100 ((rd_T94 l0 x6_4).f1) x8_4).f0), .int .i64 ((rd_T100 ((rd_T94 l0 x6_4).f1) x8_4).f1)] 100 (0, 0)) (by (with_reducible repeat (first | refine blk_drewN ?_ _ | refine blk_drew ?_ | refine blk_alloc ?_ _)); refine blk_put (cs := #[.int .i64 ((rd_T100 ((rd_T94 l0 x6_4).f1) x8_4).f0), .int .i64 0]) ?_ 1 _ rfl; (with_reducible repeat (first | refine blk_drewN ?_ _ | refine blk_drew ?_ | refine blk_alloc ?_ _)); refine blk_put (cs := #[.int .i64 0, .int .i64 0]) ?_ 0 _ rfl; (with_reducible repeat (first | refine blk_drewN ?_ _ | refine blk_drew ?_ | refine blk_alloc ?_ _)); exact BK230.out) hg (Kd.R_ne HO_7.out BK230.out (by decide))); replace HB := am (hb); have HO234 := am (ho); clear HO_7; clear ho hb hg hat; have hcz37_0 : w36.cell? ⟨gb230, 0, none⟩ = some (.int .i64 ((rd_T100 ((rd_T94 l0 x6_4).f1) x8_4).f0)) := (blk_cell BK230.out 0).trans rfl; have hcz37_1 : w36.cell? ⟨gb230, 1, none⟩ = some (.int .i64 ((rd_T100 ((rd_T94 l0 x6_4).f1) x8_4).f1)) := (blk_cell BK230.out 1).trans rfl; have hfz37_0 := bf BK230.out 0; have hfz37_1 := bf BK230.out 1))
           go_roundg k4
           case measure => have := HJ2.out; have := HK2.out; have := HJ19.out; have := HK4.out; omega
           case rel => exact ⟨(x1_4), ((rd_T100 ((rd_T94 l0 x6_4).f1) x8_4).f1), (y232), sq, sq, H', ⟨b88_⟩, ⟨rq HO_5.out⟩, ⟨rq HO234.out⟩, ⟨bel1 GE230.out⟩⟩
          rw [if_neg c31] at H; have c31b0 := decide_eq_false c31; clear c31
          have H' := am H
          clear H
          have p227 : 0 ≤ (x6_4 : Int) := of_decide_eq_true ad
          have q227 : x6_4 < (l0.length : Int) := of_decide_eq_true ad
          obtain ⟨ad227, A227_1, c227_1, e227, hx227_0, hx227_1, hl227_1, hi227_1⟩ := at_T94 HR0.out x6_4 p227 q227
          obtain rfl : ad226 = ad227 := (by injection e227)
          replace hx227_0 := kp HB.out hx227_0; replace hx227_1 := kp HB.out hx227_1; have HR227_1 := am hi227_1; have HC227_1 := am hl227_1; clear hi227_1 hl227_1; replace p227 := eq_true p227; replace q227 := eq_true q227
          have p228 : 0 ≤ (x6_4 : Int) := of_decide_eq_true ad
          have q228 : x6_4 < (l0.length : Int) := of_decide_eq_true ad
          obtain ⟨ad228, A228_1, c228_1, e228, hx228_0, hx228_1, hl228_1, hi228_1⟩ := at_T94 HR0.out x6_4 p228 q228
          obtain rfl : ad226 = ad228 := (by injection e228)
          replace hx228_0 := kp HB.out hx228_0; replace hx228_1 := kp HB.out hx228_1; have HR228_1 := am hi228_1; have HC228_1 := am hl228_1; clear hi228_1 hl228_1; replace p228 := eq_true p228; replace q228 := eq_true q228; have ea_ := Option.some.inj (hx227_1.symm.trans hx228_1)
          injection ea_ with ea_ en_ ec_
          subst ea_; subst ec_; clear en_
          have p229 : 0 ≤ (x8_4 : Int) := of_decide_eq_true ad
          have q229 : x8_4 < (((rd_T94 l0 x6_4).f1).length : Int) := of_decide_eq_true ad
          obtain ⟨ad229, e229, hx229_0, hx229_1⟩ := at_T100 HR228_1.out x8_4 p229 q229
          cases e229
          replace hx229_0 := kp HB.out hx229_0; replace hx229_1 := kp HB.out hx229_1; replace p229 := eq_true p229; replace q229 := eq_true q229
          go_wp2_with (first | ((with_reducible refine gate_dst (N := 9) rfl ?_); refine bx 9 (cs := #[.int .i64 0, .int .i64 0]) (t := 100) ?_; intro gb230 hg w38 hbox hb; replace HO_5 := am (Kd.R_below (rq HO_5.out) hb); replace HO_7 := am (Kd.R_below (rq HO_7.out) hb); have BK230 := am (hbox); have GW230 := am ((b7_ : w.heap.size ≤ gb230)); have GE230 := am ((b7_ : w.heap.size ≤ gb230)); replace HB := am (below_step bel hb); clear hb hbox hg; have hcz39_0 := bc BK230.out 0; have hcz39_1 := bc BK230.out 1; have hfz39_0 := bf BK230.out 0; have hfz39_1 := bf BK230.out 1; obtain ⟨Ao40, co40, eo40⟩ := Kd.R_slice HO_5.out; subst eo40; have p231 : 0 ≤ (((rd_T100 ((rd_T94 l0 x6_4).f1) x8_4).f1) : Int) := of_decide_eq_true ad; have q231 : ((rd_T100 ((rd_T94 l0 x6_4).f1) x8_4).f1) < (t220.length : Int) := of_decide_eq_true ad; obtain ⟨ad231, e231, hx231_0⟩ := Kd.at_int (Kd.R_reads' HO_5.out).2.2 ((rd_T100 ((rd_T94 l0 x6_4).f1) x8_4).f1) p231 q231; cases e231; have hn231_0 : ad231.block ≠ gb230 := Kd.own_blk (Kd.R_ne HO_5.out BK230.out (by decide)); have hn231_1 : ad231.block ≠ gb230 := Kd.own_blk (Kd.R_ne HO_5.out BK230.out (by decide)); replace hx231_0 := (cell_far (p := ⟨gb230, 0, none⟩) (by first | (rw [add_block]; exact hn231_0) | (show (Addr.add _ _).block ≠ _; rw [add_block]; exact hn231_0) | exact hn231_0) (.int .i64 ((rd_T100 ((rd_T94 l0 x6_4).f1) x8_4).f0))).trans hx231_0; replace hx231_0 := (cell_far (p := ⟨gb230, 1, none⟩) (by first | (rw [add_block]; exact hn231_1) | (show (Addr.add _ _).block ≠ _; rw [add_block]; exact hn231_1) | exact hn231_1) (.int .i64 ((rd_T100 ((rd_T94 l0 x6_4).f1) x8_4).f1))).trans hx231_0; clear hn231_0; clear hn231_1; replace p231 := eq_true p231; replace q231 := eq_true q231; have p235 : 0 ≤ (((rd_T100 ((rd_T94 l0 x6_4).f1) x8_4).f1) : Int) := of_decide_eq_true ad; have q235 : ((rd_T100 ((rd_T94 l0 x6_4).f1) x8_4).f1) < (t220.length : Int) := of_decide_eq_true ad; obtain ⟨ad235, e235, hx235_0⟩ := Kd.at_int (Kd.R_reads' HO_5.out).2.2 ((rd_T100 ((rd_T94 l0 x6_4).f1) x8_4).f1) p235 q235; obtain rfl : ad231 = ad235 := (by injection e235); have hn235_0 : ad231.block ≠ gb230 := Kd.own_blk (Kd.R_ne HO_5.out BK230.out (by decide)); have hn235_1 : ad231.block ≠ gb230 := Kd.own_blk (Kd.R_ne HO_5.out BK230.out (by decide)); replace hx235_0 := (cell_far (p := ⟨gb230, 0, none⟩) (by first | (rw [add_block]; exact hn235_0) | (show (Addr.add _ _).block ≠ _; rw [add_block]; exact hn235_0) | exact hn235_0) (.int .i64 ((rd_T100 ((rd_T94 l0 x6_4).f1) x8_4).f0))).trans hx235_0; replace hx235_0 := (cell_far (p := ⟨gb230, 1, none⟩) (by first | (rw [add_block]; exact hn235_1) | (show (Addr.add _ _).block ≠ _; rw [add_block]; exact hn235_1) | exact hn235_1) (.int .i64 ((rd_T100 ((rd_T94 l0 x6_4).f1) x8_4).f1))).trans hx235_0; clear hn235_0; clear hn235_1; replace p235 := eq_true p235; replace q235 := eq_true q235))
          go_roundg k4
          case measure => have := HJ2.out; have := HK2.out; have := HJ19.out; have := HK4.out; omega
          case rel => exact ⟨(wrap64 (x1_4 - (rd t220 ((rd_T100 ((rd_T94 l0 x6_4).f1) x8_4).f1)))), (x6_4), (x7_4), (wrap64 (x8_4 + 1)), sq, sq, sq, H', ⟨b88_⟩, ⟨rq (Kd.R_mono (Kd.R_far (p := ⟨gb230, 1, none⟩) (Kd.R_far (p := ⟨gb230, 0, none⟩) (Kd.R_types HO_5.out BK230.out (by decide)) (fun _ hk => hk.2) (.int .i64 ((rd_T100 ((rd_T94 l0 x6_4).f1) x8_4).f0))) (fun _ hk => hk.2) (.int .i64 ((rd_T100 ((rd_T94 l0 x6_4).f1) x8_4).f1))) (fun _ hk => trivial))⟩, ⟨rq (Kd.R_mono (Kd.R_far (p := ⟨gb230, 1, none⟩) (Kd.R_far (p := ⟨gb230, 0, none⟩) (Kd.R_types HO_7.out BK230.out (by decide)) (fun _ hk => hk.2) (.int .i64 ((rd_T100 ((rd_T94 l0 x6_4).f1) x8_4).f0))) (fun _ hk => hk.2) (.int .i64 ((rd_T100 ((rd_T94 l0 x6_4).f1) x8_4).f1))) (fun _ hk => trivial))⟩, ⟨bel1 GE230.out⟩⟩
         rw [if_neg c27] at H; have c27b0 := decide_eq_false c27; clear c27
         have H' := am H
         clear H
         have p227 : 0 ≤ (x6_4 : Int) := of_decide_eq_true ad
         have q227 : x6_4 < (l0.length : Int) := of_decide_eq_true ad
         obtain ⟨ad227, A227_1, c227_1, e227, hx227_0, hx227_1, hl227_1, hi227_1⟩ := at_T94 HR0.out x6_4 p227 q227
         obtain rfl : ad226 = ad227 := (by injection e227)
         replace hx227_0 := kp HB.out hx227_0; replace hx227_1 := kp HB.out hx227_1; have HR227_1 := am hi227_1; have HC227_1 := am hl227_1; clear hi227_1 hl227_1; replace p227 := eq_true p227; replace q227 := eq_true q227; go_wp2
         go_roundg k4
         case measure => have := HJ2.out; have := HK2.out; have := HJ19.out; have := HK4.out; omega
         case rel => exact ⟨(x1_4), (x6_4), (x7_4), sq, sq, H', ⟨b88_⟩, ⟨rq HO_5.out⟩, ⟨rq HO_7.out⟩, ⟨bel⟩⟩

/-! ### spec_MachineCount: function 40 -/
def spec_MachineCount.f (k : Nat) (l0 : List (S94)) : Option (Int) := (spec_MachineOk.f k l0).bind fun t236 => (if t236 = true then ((spec_l3Counts.f k l0).bind fun t237 => (if 0 < (t237.length : Int) then (some (rd t237 0)) else (none))) else (some 0))
theorem spec_MachineCount.calls (k : Nat) (A0 : Option Addr) (c0 : Nat) (l0 : List (S94)) (r : Int) (w : World) (hr0 : Kd.C k94 w A0 l0.length l0) (hc0 : l0.length ≤ c0) (h : spec_MachineCount.f k l0 = some r) :
  Calls Try.prog 40 #[.slice A0 l0.length c0] w fun e w' => e = .returned (.int .i64 r) ∧ Below w.heap.size w w' := by
 have HR0 := am hr0; have HC0 := am hc0; clear hr0 hc0; have HB := am (Below.refl w.heap.size w)
 have H : ((spec_MachineOk.f k l0).bind fun t236 => (if t236 = true then ((spec_l3Counts.f k l0).bind fun t237 => (if 0 < (t237.length : Int) then (some (rd t237 0)) else (none))) else (some 0))) = some r := h
 clear h; replace H := bs H; obtain ⟨t236, A20, H⟩ := H; replace H : (if t236 = true then ((spec_l3Counts.f k l0).bind fun t237 => (if 0 < (t237.length : Int) then (some (rd t237 0)) else (none))) else (some 0)) = some r := H; have A2 := Aside0.mk A20; clear A20
 by_cases c3 : t236 = true
 ·subst c3
  have H1 : ((spec_l3Counts.f k l0).bind fun t237 => (if 0 < (t237.length : Int) then (some (rd t237 0)) else (none))) = some r := b21_
  replace H := H1; clear H1
  replace H := bs H; obtain ⟨t237, A40, H⟩ := H; replace H : (if 0 < (t237.length : Int) then (some (rd t237 0)) else (none)) = some r := H; have A4 := Aside0.mk A40; clear A40
  replace H := ip H; obtain ⟨c5, H⟩ := H; have c5b0 := decide_eq_true c5
  have c5b1 : decide (0 < t237.length) = true := decide_eq_true (by omega)
  clear c5; obtain rfl := Option.some.inj H; go_enter Try.func40, Try.ntmps40
  go_wp2_with (first | ((with_reducible refine gate_callee (f := 34) rfl ?_); refine goesL_ (some 4) rfl rfl Try.func34 (by kernel_rfl) rfl #[.slice A0 l0.length c0] rfl mq ?_; (with_reducible refine (spec_MachineOk.calls k _ _ l0 true _ ?side1 ?side2 A2.out).mono ?_); (case side1 => repeat (first | exact HR0.out | (with_reducible refine Kd.C_alloc ?_ _) | (with_reducible refine Kd.C_drewN ?_ _) | (with_reducible refine Kd.C_drew ?_))); (case side2 => exact HC0.out); rintro e w6 ⟨rfl, hb⟩; refine ⟨_, rfl, ?_⟩; replace HB := am (below_step bel hb); (try clear hb); (try clear hb2); (try clear hk); (try clear hi)) | ((with_reducible refine gate_callee (f := 83) rfl ?_); refine goesL_ (some 7) rfl rfl Try.func83 (by kernel_rfl) rfl #[.slice A0 l0.length c0] rfl mq ?_; (with_reducible refine (spec_l3Counts.calls k _ _ l0 t237 _ ?side1 ?side2 A4.out).mono ?_); (case side1 => exact cq (Kd.C_below HR0.out HB.out)); (case side2 => exact HC0.out); rintro e w7 ⟨v238, rfl, ho0, hb⟩; refine ⟨_, rfl, ?_⟩; have HO239 := am (Kd.R_lower ho0 (below_size bel)); replace HB := am (below_step bel hb); (try clear hb); (try clear hb2); (try clear hk); (try clear hi); (try clear ho0); obtain ⟨Ao8, co8, eo8⟩ := Kd.R_slice HO239.out; subst eo8; have p240 : 0 ≤ (0 : Int) := (by omega); have q240 : 0 < (t237.length : Int) := of_decide_eq_true ad; obtain ⟨ad240, e240, hx240_0⟩ := Kd.at_int (Kd.R_reads' HO239.out).2.2 0 p240 q240; cases e240; have qi240 : (0 < t237.length) = True := eq_true (by omega); (try rw [show ((0 : Int)).toNat = 0 from rfl] at hx240_0); (try rw [Addr.add_zero'] at hx240_0); replace p240 := eq_true p240; replace q240 := eq_true q240))
  go_ret
  exact ⟨eq_, bel⟩
 replace c3 := Bool.eq_false_iff.mpr c3; subst c3
 have H1 : (some 0) = some r := b6_
 replace H := H1; clear H1
 obtain rfl := Option.some.inj H; go_enter Try.func40, Try.ntmps40
 go_wp2_with (first | ((with_reducible refine gate_callee (f := 34) rfl ?_); refine goesL_ (some 4) rfl rfl Try.func34 (by kernel_rfl) rfl #[.slice A0 l0.length c0] rfl mq ?_; (with_reducible refine (spec_MachineOk.calls k _ _ l0 false _ ?side1 ?side2 A2.out).mono ?_); (case side1 => repeat (first | exact HR0.out | (with_reducible refine Kd.C_alloc ?_ _) | (with_reducible refine Kd.C_drewN ?_ _) | (with_reducible refine Kd.C_drew ?_))); (case side2 => exact HC0.out); rintro e w9 ⟨rfl, hb⟩; refine ⟨_, rfl, ?_⟩; replace HB := am (below_step bel hb); (try clear hb); (try clear hb2); (try clear hk); (try clear hi)))
 go_ret
 exact ⟨eq_, bel⟩

/-- A state of type 127 at block g of W; what its slices lead to came in by w0. -/
def IsS127 (w0 W : World) (g : Nat) (f0 : List Int) (f1 : Int) : Prop := ∃ A0 c0, W.heap[g]? = some (.cells #[.slice A0 f0.length c0, .int .i64 f1] 127 (0, 0)) ∧ w0.heap.size ≤ g ∧ Kd.C (Kd.int .u8) w0 A0 f0.length f0
theorem IsS127.grown {w0 W : World} {g : Nat} {f0 : List Int} {f1 : Int} {W1 : World} {row : Option Nat} (h : IsS127 w0 W g f0 f1) (hw : W.grownBy W1 row) (hne : some g ≠ row) : IsS127 w0 W1 g f0 f1 := by
 obtain ⟨A0, c0, hb, hg, hr0⟩ := h
 exact ⟨A0, c0, blk_grown hb hw hne, hg, hr0⟩
theorem IsS127.own_neN {w0 W : World} {g : Nat} {f0 : List Int} {f1 : Int} {α : Type} {d : Kd α} {e : Nat} {base : Nat} {ok : Nat → Prop} {v : Value} {xs : List α} (h : IsS127 w0 W g f0 f1) (ho : Kd.N d e W base ok v xs) (ht : e ≠ 127) : some g ≠ v.ownBlock := by
 obtain ⟨A0, c0, hb, hg, hr0⟩ := h
 exact Kd.N_ne ho hb ht
theorem IsS127.fresh {w0 W : World} {g : Nat} {f0 : List Int} {f1 : Int} (h : IsS127 w0 W g f0 f1) : ∀ k, W.heap.size ≤ k → k ≠ g := by
 obtain ⟨A0, c0, hb, hg, hr0⟩ := h
 exact Kd.freshB hb
theorem IsS127.kept {w0 W : World} {g : Nat} {f0 : List Int} {f1 : Int} {W1 : World} {S : Nat → Prop} (h : IsS127 w0 W g f0 f1) (hk : Kept W W1 S) (hne : ¬ S g) : IsS127 w0 W1 g f0 f1 := by
 obtain ⟨A0, c0, hb, hg, hr0⟩ := h
 exact ⟨A0, c0, blk_kept hb hk hne, hg, hr0⟩
theorem IsS127.below {w0 W : World} {g : Nat} {f0 : List Int} {f1 : Int} {W1 : World} (h : IsS127 w0 W g f0 f1) (hw : Below W.heap.size W W1) : IsS127 w0 W1 g f0 f1 := h.grown (grown_of_below hw none) (by simp)
theorem IsS127.alloc {w0 W : World} {g : Nat} {f0 : List Int} {f1 : Int} (h : IsS127 w0 W g f0 f1) (o : Obj) : IsS127 w0 (W.alloc o) g f0 f1 := h.below (below_alloc (Below.refl _ _) o)
theorem IsS127.drewN {w0 W : World} {g : Nat} {f0 : List Int} {f1 : Int} (h : IsS127 w0 W g f0 f1) (m : Nat) : IsS127 w0 (W.drewN m) g f0 f1 := h
theorem IsS127.drew {w0 W : World} {g : Nat} {f0 : List Int} {f1 : Int} (h : IsS127 w0 W g f0 f1) : IsS127 w0 W.drew g f0 f1 := h
theorem IsS127.at_ {w0 W : World} {g : Nat} {f0 : List Int} {f1 : Int} {w' : World} {m : Nat} (hq : W.drewN m = w') (h : IsS127 w0 W g f0 f1) : IsS127 w0 w' g f0 f1 := by subst hq; exact IsS127.drewN h m
theorem IsS127.apart {w0 W : World} {g : Nat} {f0 : List Int} {f1 : Int} {α : Type} {d : Kd α} {e : Nat} {base : Nat} {ok : Nat → Prop} {v : Value} {xs : List α} (h : IsS127 w0 W g f0 f1) (ho : d.R e W base ok v xs) (ht : ∀ q, q ∈ e :: d.E → q ≠ 127) : d.R e W base (fun k => ok k ∧ k ≠ g) v xs := by
 obtain ⟨A0, c0, hb, hg, hr0⟩ := h
 exact Kd.R_types ho hb ht
theorem IsS127.own_ne {w0 W : World} {g : Nat} {f0 : List Int} {f1 : Int} {α : Type} {d : Kd α} {e : Nat} {base : Nat} {ok : Nat → Prop} {v : Value} {xs : List α} (h : IsS127 w0 W g f0 f1) (ho : d.R e W base ok v xs) (ht : e ≠ 127) : some g ≠ v.ownBlock := by
 obtain ⟨A0, c0, hb, hg, hr0⟩ := h
 exact Kd.R_ne ho hb ht
theorem IsS127.apartQ {w0 W : World} {g : Nat} {f0 : List Int} {f1 : Int} {α : Type} {d : Kd α} {e : Nat} {base : Nat} {ok : Nat → Prop} {v : Value} {xs : List α} (h : IsS127 w0 W g f0 f1) (ho : d.Q e W base ok v xs) (ht : ∀ q, q ∈ e :: d.E → q ≠ 127) : d.Q e W base (fun k => ok k ∧ k ≠ g) v xs := by
 obtain ⟨A0, c0, hb, hg, hr0⟩ := h
 exact Kd.Q_types ho hb ht
theorem IsS127.own_neQ {w0 W : World} {g : Nat} {f0 : List Int} {f1 : Int} {α : Type} {d : Kd α} {e : Nat} {base : Nat} {ok : Nat → Prop} {v : Value} {xs : List α} (h : IsS127 w0 W g f0 f1) (ho : d.Q e W base ok v xs) (ht : e ≠ 127) : some g ≠ v.ownBlock := by
 obtain ⟨A0, c0, hb, hg, hr0⟩ := h
 exact Kd.Q_ne ho hb ht
theorem IsS127.apartS {w0 W : World} {g : Nat} {f0 : List Int} {f1 : Int} {α : Type} {d : Kd α} {e : Nat} {base : Nat} {ok : Nat → Prop} {v : Value} {xs : List α} (h : IsS127 w0 W g f0 f1) (ho : d.S e W base ok v xs) (ht : ∀ q, q ∈ e :: d.E → q ≠ 127) : d.S e W base (fun k => ok k ∧ k ≠ g) v xs := by
 obtain ⟨A0, c0, hb, hg, hr0⟩ := h
 exact Kd.S_types ho hb ht
theorem IsS127.own_neS {w0 W : World} {g : Nat} {f0 : List Int} {f1 : Int} {α : Type} {d : Kd α} {e : Nat} {base : Nat} {ok : Nat → Prop} {v : Value} {xs : List α} (h : IsS127 w0 W g f0 f1) (ho : d.S e W base ok v xs) (ht : e ≠ 127) : some g ≠ v.ownBlock := by
 obtain ⟨A0, c0, hb, hg, hr0⟩ := h
 exact Kd.S_ne ho hb ht
theorem IsS127.lt {w0 W : World} {g : Nat} {f0 : List Int} {f1 : Int} (h : IsS127 w0 W g f0 f1) : g < W.heap.size := by
 obtain ⟨A0, c0, hb, hg, hr0⟩ := h
 exact blk_lt hb
theorem IsS127.ge {w0 W : World} {g : Nat} {f0 : List Int} {f1 : Int} (h : IsS127 w0 W g f0 f1) : w0.heap.size ≤ g := by
 obtain ⟨A0, c0, hb, hg, hr0⟩ := h
 exact hg
theorem IsS127.ne_blk {w0 W : World} {g : Nat} {f0 : List Int} {f1 : Int} {a : Nat} {cs : Array Value} {t : TypeId} {fr : Nat × Nat} (h : IsS127 w0 W g f0 f1) (hb2 : W.heap[a]? = some (.cells cs t fr)) (ht : t ≠ 127) : g ≠ a := by
 obtain ⟨A0, c0, hb, hg, hr0⟩ := h
 rintro rfl
 rw [hb] at hb2
 injection hb2 with hb2
 injection hb2 with _ ht2
 exact ht ht2.symm
theorem IsS127.far {w0 W : World} {g : Nat} {f0 : List Int} {f1 : Int} {p : Addr} (h : IsS127 w0 W g f0 f1) (hne : g ≠ p.block) (u : Value) : IsS127 w0 (W.setCell p u) g f0 f1 := by
 obtain ⟨A0, c0, hb, hg, hr0⟩ := h
 exact ⟨A0, c0, blk_far hb hne u, hg, hr0⟩
theorem cellS127_0 {W : World} {g : Nat} {A0 : Option Addr} {c0 : Nat} {f0 : List Int} {f1 : Int} (h : W.heap[g]? = some (.cells #[.slice A0 f0.length c0, .int .i64 f1] 127 (0, 0))) : W.cell? ⟨g, 0, none⟩ = some (.slice A0 f0.length c0) := (blk_cell h 0).trans rfl
theorem cellS127_1 {W : World} {g : Nat} {A0 : Option Addr} {c0 : Nat} {f0 : List Int} {f1 : Int} (h : W.heap[g]? = some (.cells #[.slice A0 f0.length c0, .int .i64 f1] 127 (0, 0))) : W.cell? ⟨g, 1, none⟩ = some (.int .i64 f1) := (blk_cell h 1).trans rfl
theorem IsS127.set_1 {w0 W : World} {g : Nat} {f0 : List Int} {f1 : Int} (h : IsS127 w0 W g f0 f1) (x : Int) : IsS127 w0 (W.setCell ⟨g, 1, none⟩ (.int .i64 x)) g f0 x := by
 obtain ⟨A0, c0, hb, hg, hr0⟩ := h
 exact ⟨A0, c0, by simpa using blk_set hb 1 (.int .i64 x), hg, hr0⟩
theorem IsS127.new (w0 W : World) (A0 : Option Addr) (c0 : Nat) (f0 : List Int) (f1 : Int) (hB : Below w0.heap.size w0 W) (hr0 : Kd.C (Kd.int .u8) w0 A0 f0.length f0) : IsS127 w0 (W.alloc (.cells #[.slice A0 f0.length c0, .int .i64 f1] 127)) W.heap.size f0 f1 := ⟨A0, c0, by simpa using heap_alloc_new W _, hB.size, hr0⟩

/-! ### spec_l1Open: function 64 -/
def spec_l1Open.f (l0 : List Int) : Option (List Int × Int) := if (l0.length : Int) > 2000 then (if 2000 ≤ (l0.length : Int) then (some (l0.take 2000, 0)) else (none)) else (some (l0, 0))
theorem spec_l1Open.calls (A0 : Option Addr) (c0 : Nat) (l0 : List Int) (r1 : List Int) (r2 : Int) (w0 w : World) (hB : Below w0.heap.size w0 w) (hr0 : Kd.C (Kd.int .u8) w0 A0 l0.length l0) (hc0 : l0.length ≤ c0) (h : spec_l1Open.f l0 = some (r1, r2)) :
  Calls Try.prog 64 #[.slice A0 l0.length c0] w fun e w' => ∃ g_ : Nat, e = .returned (.pointer (some ⟨g_, 0, none⟩)) ∧ IsS127 w0 w' g_ r1 r2 ∧ Below w0.heap.size w0 w' ∧ Below w.heap.size w w' := by
 have hu127 := Try.underlying127; have HR0 := am hr0; have HC0 := am hc0; clear hr0 hc0; have HBW := am (Below.refl w.heap.size w); have HW0 := am hB.size; have HB := am hB; clear hB
 have H : (if (l0.length : Int) > 2000 then (if 2000 ≤ (l0.length : Int) then (some (l0.take 2000, 0)) else (none)) else (some (l0, 0))) = some (r1, r2) := h
 clear h
 by_cases c2 : (l0.length : Int) > 2000
 ·rw [if_pos c2] at H; have c2b0 := decide_eq_true c2
  have c2b1 : decide (2000 < l0.length) = true := decide_eq_true (by omega)
  clear c2
  replace H := ip H; obtain ⟨c3, H⟩ := H; have c3b0 := eq_true c3
  have c3b1 : decide (2000 ≤ (l0.length : Int)) = true := decide_eq_true c3
  clear c3
  simp only [Option.some.injEq, Prod.mk.injEq] at H
  obtain ⟨rfl, rfl⟩ := H; obtain ⟨i04, hi04, _, hsz4, _⟩ := info_parts info5
  obtain ⟨hcut4, hA4, hC4⟩ := print_take_of (P := Try.prog) (Value.int .u8) 0 31 5 .i64 Try.underlying31 hi04 hsz4 A0 c0 l0 2000 (by omega) (of_decide_eq_true ad) HC0.out
  have HR241 := am (Kd.C_of_reads (h1 := fun _ => rfl) (hA4 _ (Kd.reads_of_C HR0.out))); have HC241 := am hC4; clear hA4 hC4 hi04 hsz4; go_enter Try.func64, Try.ntmps64
  go_wp2_with (first | ((with_reducible refine gate_dst (N := 10) rfl ?_); refine bx 10 (cs := #[.slice A0 (l0.take 2000).length c0, .int .i64 0]) (t := 127) ?_; intro gb242 hg w5 hbox hb; replace HB := am (below_step bel hb); have BK242 := am (hbox); have GW242 := am ((b46_ : w.heap.size ≤ gb242)); have GE242 := am ((Nat.le_trans HW0.out (b46_ : w.heap.size ≤ gb242) : w0.heap.size ≤ gb242)); replace HBW := am (below_step HBW.out hb); clear hb hbox hg))
  go_ret
  exact ⟨_, rfl, (show IsS127 w0 _ gb242 (l0.take 2000) 0 from ⟨_, _, by (with_reducible repeat (first | refine blk_drewN ?_ _ | refine blk_drew ?_ | refine blk_alloc ?_ _)); exact BK242.out, GE242.out, HR241.out⟩), bel1 GE242.out, by repeat (first | (with_reducible first | exact HBW.out | apply below_alloc | apply pw_below_drewN | apply below_drew1 | refine below_set ?_ GW242.out) | exact HBW.out)⟩
 rw [if_neg c2] at H; have c2b0 := decide_eq_false c2
 have c2b1 : decide (2000 < l0.length) = false := decide_eq_false (by omega)
 clear c2
 simp only [Option.some.injEq, Prod.mk.injEq] at H
 obtain ⟨rfl, rfl⟩ := H; go_enter Try.func64, Try.ntmps64
 go_wp2_with (first | ((with_reducible refine gate_dst (N := 10) rfl ?_); refine bx 10 (cs := #[.slice A0 l0.length c0, .int .i64 0]) (t := 127) ?_; intro gb243 hg w6 hbox hb; replace HB := am (below_step bel hb); have BK243 := am (hbox); have GW243 := am ((b46_ : w.heap.size ≤ gb243)); have GE243 := am ((Nat.le_trans HW0.out (b46_ : w.heap.size ≤ gb243) : w0.heap.size ≤ gb243)); replace HBW := am (below_step HBW.out hb); clear hb hbox hg))
 go_ret
 exact ⟨_, rfl, (show IsS127 w0 _ gb243 l0 0 from ⟨_, _, by (with_reducible repeat (first | refine blk_drewN ?_ _ | refine blk_drew ?_ | refine blk_alloc ?_ _)); exact BK243.out, GE243.out, HR0.out⟩), bel1 GE243.out, by repeat (first | (with_reducible first | exact HBW.out | apply below_alloc | apply pw_below_drewN | apply below_drew1 | refine below_set ?_ GW243.out) | exact HBW.out)⟩
-- shrunk

/-! ### spec_l1Rd_pick: function 67 -/
def spec_l1Rd_pick.j0 : Nat → Int → Bool → List Int → Int → Option (Int × Int)
 | 0, _, _, _, _ => none
 | k + 1, x1, x24, x1000, x1001 => if x24 = true then (some (0, x1001)) else (if (wrap64 (x1001 - 1)) < (x1000.length : Int) then (if 0 ≤ (wrap64 (x1001 - 1)) then (if x1 = 0 then (none) else (some (Int.tmod (wrap64 (rd x1000 (wrap64 (x1001 - 1)))) x1, x1001))) else (none)) else (if (x1000.length : Int) = 0 then (none) else (if 0 ≤ (Int.tmod (wrap64 (x1001 - 1)) (x1000.length : Int)) then (if (Int.tmod (wrap64 (x1001 - 1)) (x1000.length : Int)) < (x1000.length : Int) then (if 0 ≤ (Int.tmod (wrap64 ((wrap64 ((wrap64 (x1001 - 1)) * 7)) + 3)) (x1000.length : Int)) then (if (Int.tmod (wrap64 ((wrap64 ((wrap64 (x1001 - 1)) * 7)) + 3)) (x1000.length : Int)) < (x1000.length : Int) then (if x1 = 0 then (none) else (some (Int.tmod (Go.bits .xor .i64 (wrap64 ((wrap64 ((wrap64 ((wrap64 ((wrap64 (rd x1000 (Int.tmod (wrap64 (x1001 - 1)) (x1000.length : Int)))) * 131)) + (wrap64 ((wrap64 (rd x1000 (Int.tmod (wrap64 ((wrap64 ((wrap64 (x1001 - 1)) * 7)) + 3)) (x1000.length : Int)))) * 1117)))) + (wrap64 ((wrap64 (x1001 - 1)) * 29)))) + (wrap64 ((wrap64 (Int.tdiv (wrap64 (x1001 - 1)) (x1000.length : Int))) * 53)))) (wrap64 (Int.tdiv (wrap64 ((wrap64 ((wrap64 ((wrap64 ((wrap64 (rd x1000 (Int.tmod (wrap64 (x1001 - 1)) (x1000.length : Int)))) * 131)) + (wrap64 ((wrap64 (rd x1000 (Int.tmod (wrap64 ((wrap64 ((wrap64 (x1001 - 1)) * 7)) + 3)) (x1000.length : Int)))) * 1117)))) + (wrap64 ((wrap64 (x1001 - 1)) * 29)))) + (wrap64 ((wrap64 (Int.tdiv (wrap64 (x1001 - 1)) (x1000.length : Int))) * 53)))) 64))) x1, x1001))) else (none)) else (none)) else (none)) else (none))))
def spec_l1Rd_pick.f (k : Nat) (s0_0 : List Int) (s0_1 : Int) (a1 : Int) : Option (Int × Int) := if a1 < 1 then (spec_l1Rd_pick.j0 k a1 true s0_0 (wrap64 (s0_1 + 1))) else (spec_l1Rd_pick.j0 k a1 ((s0_0.length : Int) == 0) s0_0 (wrap64 (s0_1 + 1)))
theorem spec_l1Rd_pick.calls (k : Nat) (g : Nat) (s0_0 : List Int) (s0_1 : Int) (a1 : Int) (r1 : Int) (r2 : Int) (w0 w : World) (hI : IsS127 w0 w g s0_0 s0_1) (hB : Below w0.heap.size w0 w) (h : spec_l1Rd_pick.f k s0_0 s0_1 a1 = some (r1, r2)) :
  Calls Try.prog 67 #[.pointer (some ⟨g, 0, none⟩), .int .i64 a1] w fun e w' => e = .returned (.int .i64 r1) ∧ IsS127 w0 w' g s0_0 r2 ∧ Below w0.heap.size w0 w' ∧ KeepBut w w' g none := by
 have HI0 := am hI; have HK := am (KeepBut.refl w g none); have HL := am hB.size; clear hI; have HW0 := am hB.size; have HB := am hB; clear hB
 have H : (if a1 < 1 then (spec_l1Rd_pick.j0 k a1 true s0_0 (wrap64 (s0_1 + 1))) else (spec_l1Rd_pick.j0 k a1 ((s0_0.length : Int) == 0) s0_0 (wrap64 (s0_1 + 1)))) = some (r1, r2) := h
 clear h; have HC3 := am H; clear H; obtain ⟨ASz4_0, cSz4_0, HGz4, hgz4, HSz4_0⟩ := HI0.out; have hcz4_0 := cellS127_0 HGz4; have hcz4_1 := cellS127_1 HGz4; have hfz4_1 := bf HGz4 1; clear HGz4 hgz4; go_enter Try.func67, Try.ntmps67
 go_upto_region 2 with (fail)
 repeat (go_quiet (fail); go_upto_region 2 with (fail))
 go_cut [24] (fun v24 wc => ∃ (kq : Nat) (x24_2 : Bool), v24 = .bool x24_2 ∧ Aside0 (spec_l1Rd_pick.j0 kq a1 x24_2 s0_0 (wrap64 (s0_1 + 1)) = some (r1, r2)) ∧ Aside0 (kq ≤ k) ∧ Aside0 (IsS127 w0 wc g s0_0 (wrap64 (s0_1 + 1))) ∧ Aside0 (KeepBut w wc g none) ∧ Aside0 (Below w0.heap.size w0 wc))
 case first =>
  have H := HC3.out; clear HC3
  by_cases c5 : a1 < 1
  ·rw [if_pos c5] at H; have c5b0 := decide_eq_true c5; clear c5
   (first | rw [c5b0] | (simp only [i64_w, i32_w]; rw [c5b0]) | skip)
   have H' := am H
   clear H; go_wp2
   repeat (go_quiet (fail); try go_wp2)
   go_meet
   case rel => exact ⟨_, (true), sq, H', ⟨b59_⟩, ⟨b2_⟩, ⟨b0_⟩, ⟨b1_⟩⟩
  rw [if_neg c5] at H; have c5b0 := decide_eq_false c5; clear c5
  (first | rw [c5b0] | (simp only [i64_w, i32_w]; rw [c5b0]) | skip)
  have H' := am H
  clear H; obtain ⟨ASz6_0, cSz6_0, HGz6, hgz6, HSz6_0⟩ := HI0.out; have hcz6_0 := cellS127_0 HGz6; have hcz6_1 := cellS127_1 HGz6; have hfz6_1 := bf HGz6 1; clear HGz6 hgz6; go_wp2
  repeat (go_quiet (fail); try go_wp2)
  go_meet
  case rel => exact ⟨_, (((s0_0.length : Int) == 0)), sq, H', ⟨b59_⟩, ⟨b2_⟩, ⟨b0_⟩, ⟨b1_⟩⟩
 case rest =>
  clear HC3; (try clear p2); (try clear c5); (try clear c5b0); (try clear c6); (try clear p6); (try clear hcz4_0); (try clear hcz4_1); (try clear hcz6_0); (try clear hcz6_1); (try clear hfz4_1); (try clear hfz6_1); obtain ⟨kq, x24_2, rfl, HA, HJ2, HI0, HK, HB⟩ := hcut
  cases kq with
  | zero => exact absurd HA.out (by simp [spec_l1Rd_pick.j0])
  | succ kj2 =>
   have H := HA.out; clear HA
   simp only [spec_l1Rd_pick.j0] at H
   by_cases c7 : x24_2 = true
   ·subst c7
    have H1 : (some (0, (wrap64 (s0_1 + 1)))) = some (r1, r2) := b21_
    replace H := H1; clear H1
    simp only [Option.some.injEq, Prod.mk.injEq] at H
    obtain ⟨rfl, rfl⟩ := H; go_wp2
    repeat (go_quiet (fail); try go_wp2)
    go_ret
    exact ⟨eq_, b2_, b1_, b0_⟩
   replace c7 := Bool.eq_false_iff.mpr c7; subst c7
   have H1 : (if (wrap64 ((wrap64 (s0_1 + 1)) - 1)) < (s0_0.length : Int) then (if 0 ≤ (wrap64 ((wrap64 (s0_1 + 1)) - 1)) then (if a1 = 0 then (none) else (some (Int.tmod (wrap64 (rd s0_0 (wrap64 ((wrap64 (s0_1 + 1)) - 1)))) a1, (wrap64 (s0_1 + 1))))) else (none)) else (if (s0_0.length : Int) = 0 then (none) else (if 0 ≤ (Int.tmod (wrap64 ((wrap64 (s0_1 + 1)) - 1)) (s0_0.length : Int)) then (if (Int.tmod (wrap64 ((wrap64 (s0_1 + 1)) - 1)) (s0_0.length : Int)) < (s0_0.length : Int) then (if 0 ≤ (Int.tmod (wrap64 ((wrap64 ((wrap64 ((wrap64 (s0_1 + 1)) - 1)) * 7)) + 3)) (s0_0.length : Int)) then (if (Int.tmod (wrap64 ((wrap64 ((wrap64 ((wrap64 (s0_1 + 1)) - 1)) * 7)) + 3)) (s0_0.length : Int)) < (s0_0.length : Int) then (if a1 = 0 then (none) else (some (Int.tmod (Go.bits .xor .i64 (wrap64 ((wrap64 ((wrap64 ((wrap64 ((wrap64 (rd s0_0 (Int.tmod (wrap64 ((wrap64 (s0_1 + 1)) - 1)) (s0_0.length : Int)))) * 131)) + (wrap64 ((wrap64 (rd s0_0 (Int.tmod (wrap64 ((wrap64 ((wrap64 ((wrap64 (s0_1 + 1)) - 1)) * 7)) + 3)) (s0_0.length : Int)))) * 1117)))) + (wrap64 ((wrap64 ((wrap64 (s0_1 + 1)) - 1)) * 29)))) + (wrap64 ((wrap64 (Int.tdiv (wrap64 ((wrap64 (s0_1 + 1)) - 1)) (s0_0.length : Int))) * 53)))) (wrap64 (Int.tdiv (wrap64 ((wrap64 ((wrap64 ((wrap64 ((wrap64 (rd s0_0 (Int.tmod (wrap64 ((wrap64 (s0_1 + 1)) - 1)) (s0_0.length : Int)))) * 131)) + (wrap64 ((wrap64 (rd s0_0 (Int.tmod (wrap64 ((wrap64 ((wrap64 ((wrap64 (s0_1 + 1)) - 1)) * 7)) + 3)) (s0_0.length : Int)))) * 1117)))) + (wrap64 ((wrap64 ((wrap64 (s0_1 + 1)) - 1)) * 29)))) + (wrap64 ((wrap64 (Int.tdiv (wrap64 ((wrap64 (s0_1 + 1)) - 1)) (s0_0.length : Int))) * 53)))) 64))) a1, (wrap64 (s0_1 + 1))))) else (none)) else (none)) else (none)) else (none)))) = some (r1, r2) := b6_
   replace H := H1; clear H1
   by_cases c8 : (wrap64 ((wrap64 (s0_1 + 1)) - 1)) < (s0_0.length : Int)
   ·rw [if_pos c8] at H; have c8b0 := decide_eq_true c8; clear c8; obtain ⟨ji9, hji9⟩ : ∃ j_ : Int, (wrap64 ((wrap64 (s0_1 + 1)) - 1)) = j_ := ⟨_, rfl⟩
    replace H : (if 0 ≤ (ji9) then (if a1 = 0 then (none) else (some (Int.tmod (wrap64 (rd s0_0 (ji9))) a1, (wrap64 (s0_1 + 1))))) else (none)) = some (r1, r2) := by first | (rw [hji9] at H; exact H) | (simp only [hji9] at H ⊢; exact H)
    (try rw [hji9] at c8b0)
    have hji9w : (IntKind.i64.wrap ((wrap64 (s0_1 + 1)) - 1)) = ji9 := (i64_w _).trans hji9
    replace H := it H; obtain ⟨c10b0, H⟩ := H
    replace H := iq H; obtain ⟨c11, H⟩ := H
    have c11b0 : (a1 == 0) = false := beq_eq_false_iff_ne.mpr c11
    have c11b1 : (a1 != 0) = true := bne_iff_ne.mpr c11
    simp only [Option.some.injEq, Prod.mk.injEq] at H
    obtain ⟨rfl, rfl⟩ := H; obtain ⟨ASz12_0, cSz12_0, HGz12, hgz12, HSz12_0⟩ := HI0.out; have hcz12_0 := cellS127_0 HGz12; have hcz12_1 := cellS127_1 HGz12; have hfz12_1 := bf HGz12 1; clear HGz12 hgz12
    have p244 : 0 ≤ ((ji9) : Int) := of_decide_eq_true ad
    have q244 : (ji9) < (s0_0.length : Int) := of_decide_eq_true ad
    obtain ⟨ad244, e244, hx244_0⟩ := Kd.at_int HSz12_0 (ji9) p244 q244
    cases e244
    replace hx244_0 := pw_cell_below HB.out hx244_0; replace p244 := eq_true p244; replace q244 := eq_true q244; go_wp2
    repeat (go_quiet (fail); try go_wp2)
    go_ret
    exact ⟨by first | rfl | (simp [errW_none, errW_some] <;> rfl) | (simp only [← hji9]; first | rfl | (simp [errW_none, errW_some] <;> rfl)) | (simp [*, errW_none, errW_some] <;> rfl), b2_, b1_, b0_⟩
   rw [if_neg c8] at H; have c8b0 := decide_eq_false c8; clear c8
   replace H := iq H; obtain ⟨c13, H⟩ := H
   have c13b0 : ((s0_0.length : Int) == 0) = false := beq_eq_false_iff_ne.mpr c13
   have c13b1 : ((s0_0.length : Int) != 0) = true := bne_iff_ne.mpr c13
   have c13b2 : ¬ (s0_0 = []) := fun h_ => c13 (by rw [h_]; rfl)
   obtain ⟨ji14, hji14⟩ : ∃ j_ : Int, (Int.tmod (wrap64 ((wrap64 (s0_1 + 1)) - 1)) (s0_0.length : Int)) = j_ := ⟨_, rfl⟩
   replace H : (if 0 ≤ (ji14) then (if (ji14) < (s0_0.length : Int) then (if 0 ≤ (Int.tmod (wrap64 ((wrap64 ((wrap64 ((wrap64 (s0_1 + 1)) - 1)) * 7)) + 3)) (s0_0.length : Int)) then (if (Int.tmod (wrap64 ((wrap64 ((wrap64 ((wrap64 (s0_1 + 1)) - 1)) * 7)) + 3)) (s0_0.length : Int)) < (s0_0.length : Int) then (if a1 = 0 then (none) else (some (Int.tmod (Go.bits .xor .i64 (wrap64 ((wrap64 ((wrap64 ((wrap64 ((wrap64 (rd s0_0 (ji14))) * 131)) + (wrap64 ((wrap64 (rd s0_0 (Int.tmod (wrap64 ((wrap64 ((wrap64 ((wrap64 (s0_1 + 1)) - 1)) * 7)) + 3)) (s0_0.length : Int)))) * 1117)))) + (wrap64 ((wrap64 ((wrap64 (s0_1 + 1)) - 1)) * 29)))) + (wrap64 ((wrap64 (Int.tdiv (wrap64 ((wrap64 (s0_1 + 1)) - 1)) (s0_0.length : Int))) * 53)))) (wrap64 (Int.tdiv (wrap64 ((wrap64 ((wrap64 ((wrap64 ((wrap64 (rd s0_0 (ji14))) * 131)) + (wrap64 ((wrap64 (rd s0_0 (Int.tmod (wrap64 ((wrap64 ((wrap64 ((wrap64 (s0_1 + 1)) - 1)) * 7)) + 3)) (s0_0.length : Int)))) * 1117)))) + (wrap64 ((wrap64 ((wrap64 (s0_1 + 1)) - 1)) * 29)))) + (wrap64 ((wrap64 (Int.tdiv (wrap64 ((wrap64 (s0_1 + 1)) - 1)) (s0_0.length : Int))) * 53)))) 64))) a1, (wrap64 (s0_1 + 1))))) else (none)) else (none)) else (none)) else (none)) = some (r1, r2) := by first | (rw [hji14] at H; exact H) | (simp only [hji14] at H ⊢; exact H)
   replace H := it H; obtain ⟨c15b0, H⟩ := H
   replace H := it H; obtain ⟨c16b0, H⟩ := H; obtain ⟨ji17, hji17⟩ : ∃ j_ : Int, (Int.tmod (wrap64 ((wrap64 ((wrap64 ((wrap64 (s0_1 + 1)) - 1)) * 7)) + 3)) (s0_0.length : Int)) = j_ := ⟨_, rfl⟩
   replace H : (if 0 ≤ (ji17) then (if (ji17) < (s0_0.length : Int) then (if a1 = 0 then (none) else (some (Int.tmod (Go.bits .xor .i64 (wrap64 ((wrap64 ((wrap64 ((wrap64 ((wrap64 (rd s0_0 (ji14))) * 131)) + (wrap64 ((wrap64 (rd s0_0 (ji17))) * 1117)))) + (wrap64 ((wrap64 ((wrap64 (s0_1 + 1)) - 1)) * 29)))) + (wrap64 ((wrap64 (Int.tdiv (wrap64 ((wrap64 (s0_1 + 1)) - 1)) (s0_0.length : Int))) * 53)))) (wrap64 (Int.tdiv (wrap64 ((wrap64 ((wrap64 ((wrap64 ((wrap64 (rd s0_0 (ji14))) * 131)) + (wrap64 ((wrap64 (rd s0_0 (ji17))) * 1117)))) + (wrap64 ((wrap64 ((wrap64 (s0_1 + 1)) - 1)) * 29)))) + (wrap64 ((wrap64 (Int.tdiv (wrap64 ((wrap64 (s0_1 + 1)) - 1)) (s0_0.length : Int))) * 53)))) 64))) a1, (wrap64 (s0_1 + 1))))) else (none)) else (none)) = some (r1, r2) := by first | (rw [hji17] at H; exact H) | (simp only [hji17] at H ⊢; exact H)
   replace H := it H; obtain ⟨c18b0, H⟩ := H
   replace H := it H; obtain ⟨c19b0, H⟩ := H
   replace H := iq H; obtain ⟨c20, H⟩ := H
   have c20b0 : (a1 == 0) = false := beq_eq_false_iff_ne.mpr c20
   have c20b1 : (a1 != 0) = true := bne_iff_ne.mpr c20
   simp only [Option.some.injEq, Prod.mk.injEq] at H
   obtain ⟨rfl, rfl⟩ := H; obtain ⟨ASz21_0, cSz21_0, HGz21, hgz21, HSz21_0⟩ := HI0.out; have hcz21_0 := cellS127_0 HGz21; have hcz21_1 := cellS127_1 HGz21; have hfz21_1 := bf HGz21 1; clear HGz21 hgz21
   have p245 : 0 ≤ ((ji14) : Int) := of_decide_eq_true ad
   have q245 : (ji14) < (s0_0.length : Int) := of_decide_eq_true ad
   obtain ⟨ad245, e245, hx245_0⟩ := Kd.at_int HSz21_0 (ji14) p245 q245
   cases e245
   replace hx245_0 := pw_cell_below HB.out hx245_0; replace p245 := eq_true p245; replace q245 := eq_true q245
   have p246 : 0 ≤ ((ji17) : Int) := of_decide_eq_true ad
   have q246 : (ji17) < (s0_0.length : Int) := of_decide_eq_true ad
   obtain ⟨ad246, e246, hx246_0⟩ := Kd.at_int HSz21_0 (ji17) p246 q246
   obtain rfl : ad245 = ad246 := (by injection e246)
   replace hx246_0 := pw_cell_below HB.out hx246_0; replace p246 := eq_true p246; replace q246 := eq_true q246; go_wp2
   repeat (go_quiet (fail); try go_wp2)
   go_ret
   exact ⟨by first | rfl | (simp [errW_none, errW_some] <;> rfl) | (simp only [← hji14, ← hji17]; first | rfl | (simp [errW_none, errW_some] <;> rfl)) | (simp [*, errW_none, errW_some] <;> rfl), b2_, b1_, b0_⟩

/-! ### spec_l1Rd_of: function 110 -/
def spec_l1Rd_of.f (k : Nat) (s0_0 : List Int) (s0_1 : Int) (l1 : List ByteArray) : Option (ByteArray × Int) := (spec_l1Rd_pick.f k s0_0 s0_1 (l1.length : Int)).bind fun bt247 => (if 0 ≤ bt247.1 then (if bt247.1 < (l1.length : Int) then (some (rdOf ByteArray.empty l1 bt247.1, bt247.2)) else (none)) else (none))
theorem spec_l1Rd_of.calls (k : Nat) (g : Nat) (s0_0 : List Int) (s0_1 : Int) (A1 : Option Addr) (c1 : Nat) (l1 : List ByteArray) (r1 : ByteArray) (r2 : Int) (w0 w : World) (hI : IsS127 w0 w g s0_0 s0_1) (hB : Below w0.heap.size w0 w) (hr1 : Kd.C Kd.string w A1 l1.length l1) (hc1 : l1.length ≤ c1) (hf1 : ∀ ad, A1 = some ad → 0 < l1.length → ad.block ≠ g) (h : spec_l1Rd_of.f k s0_0 s0_1 l1 = some (r1, r2)) :
  Calls Try.prog 110 #[.pointer (some ⟨g, 0, none⟩), .slice A1 l1.length c1] w fun e w' => e = .returned (.string r1) ∧ IsS127 w0 w' g s0_0 r2 ∧ Below w0.heap.size w0 w' ∧ KeepBut w w' g none := by
 have HR1 := am hr1; have HC1 := am hc1; clear hr1 hc1; have HI0 := am hI; have HK := am (KeepBut.refl w g none); have HL := am hB.size; clear hI; have HW0 := am hB.size; have HB := am hB; clear hB
 have H : ((spec_l1Rd_pick.f k s0_0 s0_1 (l1.length : Int)).bind fun bt247 => (if 0 ≤ bt247.1 then (if bt247.1 < (l1.length : Int) then (some (rdOf ByteArray.empty l1 bt247.1, bt247.2)) else (none)) else (none))) = some (r1, r2) := h
 clear h; replace H := bs H; obtain ⟨⟨t247, t248⟩, A30, H⟩ := H; replace H : (if 0 ≤ t247 then (if t247 < (l1.length : Int) then (some (rdOf ByteArray.empty l1 t247, t248)) else (none)) else (none)) = some (r1, r2) := H; have A3 := Aside0.mk A30; clear A30
 replace H := it H; obtain ⟨c4b0, H⟩ := H
 replace H := it H; obtain ⟨c5b0, H⟩ := H
 simp only [Option.some.injEq, Prod.mk.injEq] at H
 obtain ⟨rfl, rfl⟩ := H; go_enter Try.func110, Try.ntmps110
 go_wp2_with (first | ((with_reducible refine gate_callee (f := 67) rfl ?_); refine goesL_ (some 9) rfl rfl Try.func67 (by kernel_rfl) rfl #[.pointer (some ⟨g, 0, none⟩), .int .i64 (l1.length : Int)] rfl mq ?_; (with_reducible refine (spec_l1Rd_pick.calls k g s0_0 s0_1 (l1.length : Int) t247 t248 w0 _ ?side1 ?side2 A3.out).mono ?_); (case side1 => repeat (first | (with_reducible first | exact HI0.out | apply IsS127.alloc | apply IsS127.drewN | apply IsS127.drew | apply IsS127.set_1) | exact HI0.out)); (case side2 => repeat (first | (with_reducible first | exact HB.out | apply below_alloc | apply pw_below_drewN | apply below_drew1 | refine below_set ?_ (IsS127.ge HI0.out)) | exact HB.out)); rintro e w6 ⟨rfl, hi, hb, hk⟩; refine ⟨_, rfl, ?_⟩; replace HK := am (KeepBut.trans b0_ hk (.inl rfl)); replace HB := am (hb); replace HI0 := am (hi); (try clear hb); (try clear hb2); (try clear hk); (try clear hi); have p249 : 0 ≤ (t247 : Int) := of_decide_eq_true ad; have q249 : t247 < (l1.length : Int) := of_decide_eq_true ad; obtain ⟨ad249, e249, hx249_0⟩ := Kd.at_string HR1.out t247 p249 q249; cases e249; replace hx249_0 := keep_cell HK.out hx249_0 (by first | (rw [add_block]; exact hf1 _ rfl (by omega)) | exact hf1 _ rfl (by omega) | exact hf1 ad249 rfl (by omega)); replace p249 := eq_true p249; replace q249 := eq_true q249))
 go_ret
 exact ⟨eq_, b2_, b1_, b0_⟩

/-! ### spec_l13Word: function 111 -/
def spec_l13Word.l0 : Nat → ByteArray → Int → List Int → Int → Option (ByteArray × Int)
 | 0, _, _, _, _ => none
 | k + 1, x3, x4, x1000, x1001 => if x4 > 0 then ((spec_l1Rd_of.f k x1000 x1001 (([(⟨#[97]⟩ : ByteArray), (⟨#[98]⟩ : ByteArray), (⟨#[99]⟩ : ByteArray), (⟨#[97, 98]⟩ : ByteArray), (⟨#[116]⟩ : ByteArray)] : List ByteArray))).bind fun bt257 => (if x3.size + bt257.1.size ≤ 9223372036854775807 then (spec_l13Word.l0 k (x3 ++ bt257.1) (wrap64 (x4 - 1)) x1000 bt257.2) else (none))) else ((spec_l1Least.f (x3.size : Int) 12).bind fun t259 => (if 0 ≤ t259 then (if t259 ≤ (x3.size : Int) then (some (x3.extract 0 (t259 : Int).toNat, x1001)) else (none)) else (none)))
def spec_l13Word.f (k : Nat) (s0_0 : List Int) (s0_1 : Int) : Option (ByteArray × Int) := (spec_l1Rd_pick.f k s0_0 s0_1 3).bind fun bt250 => (if bt250.1 = 0 then ((spec_l1Rd_pick.f k s0_0 bt250.2 5).bind fun bt252 => (spec_l13Word.l0 k (⟨#[]⟩ : ByteArray) (wrap64 (1 + bt252.1)) s0_0 bt252.2)) else ((spec_l1Rd_of.f k s0_0 bt250.2 (([(⟨#[99, 97, 116]⟩ : ByteArray), (⟨#[99, 97, 116, 115]⟩ : ByteArray), (⟨#[97, 99, 116]⟩ : ByteArray), (⟨#[100, 111]⟩ : ByteArray), (⟨#[100, 111, 105, 110, 103]⟩ : ByteArray), (⟨#[103, 111]⟩ : ByteArray), (⟨#[117, 110, 100, 111]⟩ : ByteArray), (⟨#[116, 114, 121]⟩ : ByteArray), (⟨#[116, 114, 105, 101, 115]⟩ : ByteArray), (⟨#[97]⟩ : ByteArray), (⟨#[98, 97, 107, 101]⟩ : ByteArray), (⟨#[98, 97, 107, 105, 110, 103]⟩ : ByteArray), (⟨#[116, 97, 99, 116]⟩ : ByteArray), (⟨#[99, 97, 114, 116]⟩ : ByteArray), (⟨#[97, 98, 99, 97, 98, 99, 97, 98, 99, 97, 98, 99]⟩ : ByteArray)] : List ByteArray))).bind fun bt263 => (some (bt263.1, bt263.2))))
theorem spec_l13Word.calls (k : Nat) (g : Nat) (s0_0 : List Int) (s0_1 : Int) (r1 : ByteArray) (r2 : Int) (w0 w : World) (hI : IsS127 w0 w g s0_0 s0_1) (hB : Below w0.heap.size w0 w) (h : spec_l13Word.f k s0_0 s0_1 = some (r1, r2)) :
  Calls Try.prog 111 #[.pointer (some ⟨g, 0, none⟩)] w fun e w' => e = .returned (.string r1) ∧ IsS127 w0 w' g s0_0 r2 ∧ Below w0.heap.size w0 w' ∧ KeepBut w w' g none := by
 have HI0 := am hI; have HK := am (KeepBut.refl w g none); have HL := am hB.size; clear hI; have HW0 := am hB.size; have HB := am hB; clear hB
 have H : ((spec_l1Rd_pick.f k s0_0 s0_1 3).bind fun bt250 => (if bt250.1 = 0 then ((spec_l1Rd_pick.f k s0_0 bt250.2 5).bind fun bt252 => (spec_l13Word.l0 k (⟨#[]⟩ : ByteArray) (wrap64 (1 + bt252.1)) s0_0 bt252.2)) else ((spec_l1Rd_of.f k s0_0 bt250.2 (([(⟨#[99, 97, 116]⟩ : ByteArray), (⟨#[99, 97, 116, 115]⟩ : ByteArray), (⟨#[97, 99, 116]⟩ : ByteArray), (⟨#[100, 111]⟩ : ByteArray), (⟨#[100, 111, 105, 110, 103]⟩ : ByteArray), (⟨#[103, 111]⟩ : ByteArray), (⟨#[117, 110, 100, 111]⟩ : ByteArray), (⟨#[116, 114, 121]⟩ : ByteArray), (⟨#[116, 114, 105, 101, 115]⟩ : ByteArray), (⟨#[97]⟩ : ByteArray), (⟨#[98, 97, 107, 101]⟩ : ByteArray), (⟨#[98, 97, 107, 105, 110, 103]⟩ : ByteArray), (⟨#[116, 97, 99, 116]⟩ : ByteArray), (⟨#[99, 97, 114, 116]⟩ : ByteArray), (⟨#[97, 98, 99, 97, 98, 99, 97, 98, 99, 97, 98, 99]⟩ : ByteArray)] : List ByteArray))).bind fun bt263 => (some (bt263.1, bt263.2))))) = some (r1, r2) := h
 clear h; replace H := bs H; obtain ⟨⟨t250, t251⟩, A20, H⟩ := H; replace H : (if t250 = 0 then ((spec_l1Rd_pick.f k s0_0 t251 5).bind fun bt252 => (spec_l13Word.l0 k (⟨#[]⟩ : ByteArray) (wrap64 (1 + bt252.1)) s0_0 bt252.2)) else ((spec_l1Rd_of.f k s0_0 t251 (([(⟨#[99, 97, 116]⟩ : ByteArray), (⟨#[99, 97, 116, 115]⟩ : ByteArray), (⟨#[97, 99, 116]⟩ : ByteArray), (⟨#[100, 111]⟩ : ByteArray), (⟨#[100, 111, 105, 110, 103]⟩ : ByteArray), (⟨#[103, 111]⟩ : ByteArray), (⟨#[117, 110, 100, 111]⟩ : ByteArray), (⟨#[116, 114, 121]⟩ : ByteArray), (⟨#[116, 114, 105, 101, 115]⟩ : ByteArray), (⟨#[97]⟩ : ByteArray), (⟨#[98, 97, 107, 101]⟩ : ByteArray), (⟨#[98, 97, 107, 105, 110, 103]⟩ : ByteArray), (⟨#[116, 97, 99, 116]⟩ : ByteArray), (⟨#[99, 97, 114, 116]⟩ : ByteArray), (⟨#[97, 98, 99, 97, 98, 99, 97, 98, 99, 97, 98, 99]⟩ : ByteArray)] : List ByteArray))).bind fun bt263 => (some (bt263.1, bt263.2)))) = some (r1, r2) := H; have A2 := Aside0.mk A20; clear A20
 by_cases c3 : t250 = 0
 ·rw [if_pos c3] at H
  have c3b0 : (t250 == 0) = true := beq_iff_eq.mpr c3
  have c3b1 : (t250 != 0) = false := bne_eq_false_iff_eq.mpr c3
  clear c3; replace H := bs H; obtain ⟨⟨t252, t253⟩, A40, H⟩ := H; replace H : (spec_l13Word.l0 k (⟨#[]⟩ : ByteArray) (wrap64 (1 + t252)) s0_0 t253) = some (r1, r2) := H; have A4 := Aside0.mk A40; clear A40
  have H' := am H
  clear H; go_enter Try.func111, Try.ntmps111
  go_wp2_with (first | ((with_reducible refine gate_callee (f := 67) rfl ?_); refine goesL_ (some 6) rfl rfl Try.func67 (by kernel_rfl) rfl #[.pointer (some ⟨g, 0, none⟩), .int .i64 3] rfl mq ?_; (with_reducible refine (spec_l1Rd_pick.calls k g s0_0 s0_1 3 t250 t251 w0 _ ?side1 ?side2 A2.out).mono ?_); (case side1 => repeat (first | (with_reducible first | exact HI0.out | apply IsS127.alloc | apply IsS127.drewN | apply IsS127.drew | apply IsS127.set_1) | exact HI0.out)); (case side2 => repeat (first | (with_reducible first | exact HB.out | apply below_alloc | apply pw_below_drewN | apply below_drew1 | refine below_set ?_ (IsS127.ge HI0.out)) | exact HB.out)); rintro e w5 ⟨rfl, hi, hb, hk⟩; refine ⟨_, rfl, ?_⟩; replace HK := am (KeepBut.trans b0_ hk (.inl rfl)); replace HB := am (hb); replace HI0 := am (hi); (try clear hb); (try clear hb2); (try clear hk); (try clear hi)) | ((with_reducible refine gate_callee (f := 67) rfl ?_); refine goesL_ (some 9) rfl rfl Try.func67 (by kernel_rfl) rfl #[.pointer (some ⟨g, 0, none⟩), .int .i64 5] rfl mq ?_; (with_reducible refine (spec_l1Rd_pick.calls k g s0_0 t251 5 t252 t253 w0 _ ?side1 ?side2 A4.out).mono ?_); (case side1 => repeat (first | (with_reducible first | exact HI0.out | apply IsS127.alloc | apply IsS127.drewN | apply IsS127.drew | apply IsS127.set_1) | exact HI0.out)); (case side2 => repeat (first | (with_reducible first | exact HB.out | apply below_alloc | apply pw_below_drewN | apply below_drew1 | refine below_set ?_ (IsS127.ge HI0.out)) | exact HB.out)); rintro e w6 ⟨rfl, hi, hb, hk⟩; refine ⟨_, rfl, ?_⟩; replace HK := am (KeepBut.trans b0_ hk (.inl rfl)); replace HB := am (hb); replace HI0 := am (hi); (try clear hb); (try clear hb2); (try clear hk); (try clear hi)))
  go_loopg [3, 4] k (fun kq v3 v4 w' => ∃ (x3_1 : ByteArray) (x4_1 : Int) (x1001_1 : Int), v3 = .string x3_1 ∧ v4 = .int .i64 x4_1 ∧ Aside0 (spec_l13Word.l0 kq x3_1 x4_1 s0_0 x1001_1 = some (r1, r2)) ∧ Aside0 (kq ≤ k) ∧ Aside0 (IsS127 w0 w' g s0_0 x1001_1) ∧ Aside0 (KeepBut w w' g none) ∧ Aside0 (Below w0.heap.size w0 w'))
  case atStart => exact ⟨((⟨#[]⟩ : ByteArray)), (wrap64 (1 + t252)), (t253), sq, sq, H', ⟨Nat.le_refl _⟩, ⟨b2_⟩, ⟨b0_⟩, ⟨b1_⟩⟩
  case round =>
   clear H'; (try clear c1); (try clear p2); (try clear c3); (try clear c3b0); (try clear c3b1); (try clear c6); (try clear p6); obtain ⟨x3_1, x4_1, x1001_1, rfl, rfl, HA, HK1, HI0, HK, HB⟩ := hrel
   cases gk with
   | zero => exact absurd HA.out (by simp [spec_l13Word.l0])
   | succ k1 =>
    have H := HA.out; clear HA
    simp only [spec_l13Word.l0] at H
    by_cases c7 : x4_1 > 0
    ·rw [if_pos c7] at H; have c7b0 := decide_eq_true c7; clear c7; obtain ⟨y254, hy254⟩ : ∃ y_ : List ByteArray, y_ = (([(⟨#[97]⟩ : ByteArray), (⟨#[98]⟩ : ByteArray), (⟨#[99]⟩ : ByteArray), (⟨#[97, 98]⟩ : ByteArray), (⟨#[116]⟩ : ByteArray)] : List ByteArray)) := ⟨_, rfl⟩
     replace H : ((spec_l1Rd_of.f k1 s0_0 x1001_1 y254).bind fun bt257 => (if x3_1.size + bt257.1.size ≤ 9223372036854775807 then (spec_l13Word.l0 k1 (x3_1 ++ bt257.1) (wrap64 (x4_1 - 1)) s0_0 bt257.2) else (none))) = some (r1, r2) := by first | (rw [hy254]; with_reducible exact H) | (have H2_ := bm H; rw [hy254]; with_reducible exact H2_) | (with_reducible exact bm H) | with_reducible exact H | (rw [hy254]; exact H) | exact H
     have Ny254 := am hy254; clear hy254; replace H := bs H; obtain ⟨⟨t257, t258⟩, A80, H⟩ := H; replace H : (if x3_1.size + t257.size ≤ 9223372036854775807 then (spec_l13Word.l0 k1 (x3_1 ++ t257) (wrap64 (x4_1 - 1)) s0_0 t258) else (none)) = some (r1, r2) := H; have A8 := Aside0.mk A80; clear A80
     replace H := ip H; obtain ⟨c9, H⟩ := H; have c9b0 := eq_true c9
     have c9b1 : decide (x3_1.size + t257.size ≤ 9223372036854775807) = true := decide_eq_true c9
     try have c9b2 : (9223372036854775807 < x3_1.size + t257.size) = False := eq_false (Nat.not_lt.2 c9)
     have H' := am H
     clear H
     go_wp2_with (first | ((with_reducible refine gate_dst (N := 17) rfl ?_); refine Kd.R_lit Kd.string _ 9 ?hg (N := 17) ?hd (xs := ([(⟨#[97]⟩ : ByteArray), (⟨#[98]⟩ : ByteArray), (⟨#[99]⟩ : ByteArray), (⟨#[97, 98]⟩ : ByteArray), (⟨#[116]⟩ : ByteArray)] : List ByteArray)) (inner := [.string (⟨#[97]⟩ : ByteArray), .string (⟨#[98]⟩ : ByteArray), .string (⟨#[99]⟩ : ByteArray), .string (⟨#[97, 98]⟩ : ByteArray), .string (⟨#[116]⟩ : ByteArray)]) (ok := fun _ => True) (okp := fun _ => True) ?hr ?hp (fun _ hk => hk) trivial (Below.refl _ _) (Nat.le_refl _) (by simp) ?_; (case hd => rfl); (case hg => rfl); (case hr => first | (go_simp; done) | (go_simp; rfl)); (case hp => exact (Reps.one (show Kd.M Kd.string _ _ _ (⟨#[97]⟩ : ByteArray) [.string (⟨#[97]⟩ : ByteArray)] from rfl) (Reps.one (show Kd.M Kd.string _ _ _ (⟨#[98]⟩ : ByteArray) [.string (⟨#[98]⟩ : ByteArray)] from rfl) (Reps.one (show Kd.M Kd.string _ _ _ (⟨#[99]⟩ : ByteArray) [.string (⟨#[99]⟩ : ByteArray)] from rfl) (Reps.one (show Kd.M Kd.string _ _ _ (⟨#[97, 98]⟩ : ByteArray) [.string (⟨#[97, 98]⟩ : ByteArray)] from rfl) (Reps.one (show Kd.M Kd.string _ _ _ (⟨#[116]⟩ : ByteArray) [.string (⟨#[116]⟩ : ByteArray)] from rfl) (Reps.none _ _))))))); intro v255 w10 ho11 hb hg_ hnew_; clear hg_ hnew_; (first | rw [← Ny254.out] at ho11 | (simp only [Int.reduceToNat] at ho11; rw [← Ny254.out] at ho11) | (simp only [Int.toNat_natCast] at ho11; rw [← Ny254.out] at ho11)); have HO256 := am (Kd.R_lower ho11 (keep_size (w := w) (g := g) (row := none) b0_)); replace HK := am (KeepBut.trans b0_ (KeepBut.of_below hb g none) (.inl rfl)); replace HB := am (below_step b1_ hb); replace HI0 := am (IsS127.below b2_ hb); clear hb ho11; obtain ⟨Ao12, co12, eo12⟩ := Kd.R_slice HO256.out; subst eo12) | ((with_reducible refine gate_callee (f := 110) rfl ?_); refine goesL_ (some 18) rfl rfl Try.func110 (by kernel_rfl) rfl #[.pointer (some ⟨g, 0, none⟩), .slice Ao12 y254.length co12] rfl mq ?_; (with_reducible refine (spec_l1Rd_of.calls k1 g s0_0 x1001_1 _ _ y254 t257 t258 w0 _ ?side1 ?side2 ?side3 ?side4 ?side5 A8.out).mono ?_); (case side1 => repeat (first | (with_reducible first | exact HI0.out | apply IsS127.alloc | apply IsS127.drewN | apply IsS127.drew | apply IsS127.set_1) | exact HI0.out)); (case side2 => repeat (first | (with_reducible first | exact HB.out | apply below_alloc | apply pw_below_drewN | apply below_drew1 | refine below_set ?_ (IsS127.ge HI0.out)) | exact HB.out)); (case side3 => exact cq (Kd.R_reads' HO256.out).2.2); (case side4 => exact (Kd.R_reads' HO256.out).2.1); (case side5 => exact far_slice (IsS127.own_ne HI0.out HO256.out (by decide))); rintro e w13 ⟨rfl, hi, hb, hk⟩; refine ⟨_, rfl, ?_⟩; replace HO256 := am (Kd.R_mono (Kd.R_keep (IsS127.apart (show IsS127 w0 _ g s0_0 x1001_1 from by repeat (first | (with_reducible first | exact HI0.out | apply IsS127.alloc | apply IsS127.drewN | apply IsS127.drew | apply IsS127.set_1) | exact HI0.out)) (rq HO256.out) (by decide)) hk (fun _ h => h.2)) (fun _ h => h.1)); replace HK := am (KeepBut.trans b0_ hk (.inl rfl)); replace HB := am (hb); replace HI0 := am (hi); (try clear hb); (try clear hb2); (try clear hk); (try clear hi)))
     go_roundg k1
     case measure => have := HK1.out; omega
     case rel => exact ⟨(x3_1 ++ t257), (wrap64 (x4_1 - 1)), (t258), sq, sq, H', ⟨b67_⟩, ⟨b2_⟩, ⟨b0_⟩, ⟨b1_⟩⟩
    rw [if_neg c7] at H; have c7b0 := decide_eq_false c7; clear c7; replace H := bs H; obtain ⟨t259, A140, H⟩ := H; replace H : (if 0 ≤ t259 then (if t259 ≤ (x3_1.size : Int) then (some (x3_1.extract 0 (t259 : Int).toNat, x1001_1)) else (none)) else (none)) = some (r1, r2) := H; have A14 := Aside0.mk A140; clear A140
    replace H := ip H; obtain ⟨c15, H⟩ := H; have c15b0 := eq_true c15
    have c15b1 : decide (0 ≤ t259) = true := decide_eq_true c15
    clear c15
    replace H := ip H; obtain ⟨c16, H⟩ := H; have c16b0 := eq_true c16
    have c16b1 : decide (t259 ≤ (x3_1.size : Int)) = true := decide_eq_true c16
    clear c16
    simp only [Option.some.injEq, Prod.mk.injEq] at H
    obtain ⟨rfl, rfl⟩ := H
    go_wp2_with (first | ((with_reducible refine gate_callee (f := 119) rfl ?_); refine goesL_ (some 23) rfl rfl Try.func119 (by kernel_rfl) rfl #[.int .i64 (x3_1.size : Int), .int .i64 12] rfl mq ?_; (with_reducible refine (spec_l1Least.calls (x3_1.size : Int) 12 t259 _ A14.out).mono ?_); rintro e w' ⟨rfl, ⟨nd, rfl⟩⟩; refine ⟨_, rfl, ?_⟩))
    go_ret
    exact ⟨eq_, b2_, b1_, b0_⟩
 rw [if_neg c3] at H
 have c3b0 : (t250 == 0) = false := beq_eq_false_iff_ne.mpr c3
 have c3b1 : (t250 != 0) = true := bne_iff_ne.mpr c3
 obtain ⟨y260, hy260⟩ : ∃ y_ : List ByteArray, y_ = (([(⟨#[99, 97, 116]⟩ : ByteArray), (⟨#[99, 97, 116, 115]⟩ : ByteArray), (⟨#[97, 99, 116]⟩ : ByteArray), (⟨#[100, 111]⟩ : ByteArray), (⟨#[100, 111, 105, 110, 103]⟩ : ByteArray), (⟨#[103, 111]⟩ : ByteArray), (⟨#[117, 110, 100, 111]⟩ : ByteArray), (⟨#[116, 114, 121]⟩ : ByteArray), (⟨#[116, 114, 105, 101, 115]⟩ : ByteArray), (⟨#[97]⟩ : ByteArray), (⟨#[98, 97, 107, 101]⟩ : ByteArray), (⟨#[98, 97, 107, 105, 110, 103]⟩ : ByteArray), (⟨#[116, 97, 99, 116]⟩ : ByteArray), (⟨#[99, 97, 114, 116]⟩ : ByteArray), (⟨#[97, 98, 99, 97, 98, 99, 97, 98, 99, 97, 98, 99]⟩ : ByteArray)] : List ByteArray)) := ⟨_, rfl⟩
 replace H : ((spec_l1Rd_of.f k s0_0 t251 y260).bind fun bt263 => (some (bt263.1, bt263.2))) = some (r1, r2) := by first | (rw [hy260]; with_reducible exact H) | (have H2_ := bm H; rw [hy260]; with_reducible exact H2_) | (with_reducible exact bm H) | with_reducible exact H | (rw [hy260]; exact H) | exact H
 have Ny260 := am hy260; clear hy260; replace H := bs H; obtain ⟨⟨t263, t264⟩, A170, H⟩ := H; replace H : (some (t263, t264)) = some (r1, r2) := H; have A17 := Aside0.mk A170; clear A170
 simp only [Option.some.injEq, Prod.mk.injEq] at H
 obtain ⟨rfl, rfl⟩ := H; go_enter Try.func111, Try.ntmps111
 go_wp2_with (first | ((with_reducible refine gate_callee (f := 67) rfl ?_); refine goesL_ (some 6) rfl rfl Try.func67 (by kernel_rfl) rfl #[.pointer (some ⟨g, 0, none⟩), .int .i64 3] rfl mq ?_; (with_reducible refine (spec_l1Rd_pick.calls k g s0_0 s0_1 3 t250 t251 w0 _ ?side1 ?side2 A2.out).mono ?_); (case side1 => repeat (first | (with_reducible first | exact HI0.out | apply IsS127.alloc | apply IsS127.drewN | apply IsS127.drew | apply IsS127.set_1) | exact HI0.out)); (case side2 => repeat (first | (with_reducible first | exact HB.out | apply below_alloc | apply pw_below_drewN | apply below_drew1 | refine below_set ?_ (IsS127.ge HI0.out)) | exact HB.out)); rintro e w18 ⟨rfl, hi, hb, hk⟩; refine ⟨_, rfl, ?_⟩; replace HK := am (KeepBut.trans b0_ hk (.inl rfl)); replace HB := am (hb); replace HI0 := am (hi); (try clear hb); (try clear hb2); (try clear hk); (try clear hi)) | ((with_reducible refine gate_dst (N := 26) rfl ?_); refine Kd.R_lit Kd.string _ 9 ?hg (N := 26) ?hd (xs := ([(⟨#[99, 97, 116]⟩ : ByteArray), (⟨#[99, 97, 116, 115]⟩ : ByteArray), (⟨#[97, 99, 116]⟩ : ByteArray), (⟨#[100, 111]⟩ : ByteArray), (⟨#[100, 111, 105, 110, 103]⟩ : ByteArray), (⟨#[103, 111]⟩ : ByteArray), (⟨#[117, 110, 100, 111]⟩ : ByteArray), (⟨#[116, 114, 121]⟩ : ByteArray), (⟨#[116, 114, 105, 101, 115]⟩ : ByteArray), (⟨#[97]⟩ : ByteArray), (⟨#[98, 97, 107, 101]⟩ : ByteArray), (⟨#[98, 97, 107, 105, 110, 103]⟩ : ByteArray), (⟨#[116, 97, 99, 116]⟩ : ByteArray), (⟨#[99, 97, 114, 116]⟩ : ByteArray), (⟨#[97, 98, 99, 97, 98, 99, 97, 98, 99, 97, 98, 99]⟩ : ByteArray)] : List ByteArray)) (inner := [.string (⟨#[99, 97, 116]⟩ : ByteArray), .string (⟨#[99, 97, 116, 115]⟩ : ByteArray), .string (⟨#[97, 99, 116]⟩ : ByteArray), .string (⟨#[100, 111]⟩ : ByteArray), .string (⟨#[100, 111, 105, 110, 103]⟩ : ByteArray), .string (⟨#[103, 111]⟩ : ByteArray), .string (⟨#[117, 110, 100, 111]⟩ : ByteArray), .string (⟨#[116, 114, 121]⟩ : ByteArray), .string (⟨#[116, 114, 105, 101, 115]⟩ : ByteArray), .string (⟨#[97]⟩ : ByteArray), .string (⟨#[98, 97, 107, 101]⟩ : ByteArray), .string (⟨#[98, 97, 107, 105, 110, 103]⟩ : ByteArray), .string (⟨#[116, 97, 99, 116]⟩ : ByteArray), .string (⟨#[99, 97, 114, 116]⟩ : ByteArray), .string (⟨#[97, 98, 99, 97, 98, 99, 97, 98, 99, 97, 98, 99]⟩ : ByteArray)]) (ok := fun _ => True) (okp := fun _ => True) ?hr ?hp (fun _ hk => hk) trivial (Below.refl _ _) (Nat.le_refl _) (by simp) ?_; (case hd => rfl); (case hg => rfl); (case hr => first | (go_simp; done) | (go_simp; rfl)); (case hp => exact (Reps.one (show Kd.M Kd.string _ _ _ (⟨#[99, 97, 116]⟩ : ByteArray) [.string (⟨#[99, 97, 116]⟩ : ByteArray)] from rfl) (Reps.one (show Kd.M Kd.string _ _ _ (⟨#[99, 97, 116, 115]⟩ : ByteArray) [.string (⟨#[99, 97, 116, 115]⟩ : ByteArray)] from rfl) (Reps.one (show Kd.M Kd.string _ _ _ (⟨#[97, 99, 116]⟩ : ByteArray) [.string (⟨#[97, 99, 116]⟩ : ByteArray)] from rfl) (Reps.one (show Kd.M Kd.string _ _ _ (⟨#[100, 111]⟩ : ByteArray) [.string (⟨#[100, 111]⟩ : ByteArray)] from rfl) (Reps.one (show Kd.M Kd.string _ _ _ (⟨#[100, 111, 105, 110, 103]⟩ : ByteArray) [.string (⟨#[100, 111, 105, 110, 103]⟩ : ByteArray)] from rfl) (Reps.one (show Kd.M Kd.string _ _ _ (⟨#[103, 111]⟩ : ByteArray) [.string (⟨#[103, 111]⟩ : ByteArray)] from rfl) (Reps.one (show Kd.M Kd.string _ _ _ (⟨#[117, 110, 100, 111]⟩ : ByteArray) [.string (⟨#[117, 110, 100, 111]⟩ : ByteArray)] from rfl) (Reps.one (show Kd.M Kd.string _ _ _ (⟨#[116, 114, 121]⟩ : ByteArray) [.string (⟨#[116, 114, 121]⟩ : ByteArray)] from rfl) (Reps.one (show Kd.M Kd.string _ _ _ (⟨#[116, 114, 105, 101, 115]⟩ : ByteArray) [.string (⟨#[116, 114, 105, 101, 115]⟩ : ByteArray)] from rfl) (Reps.one (show Kd.M Kd.string _ _ _ (⟨#[97]⟩ : ByteArray) [.string (⟨#[97]⟩ : ByteArray)] from rfl) (Reps.one (show Kd.M Kd.string _ _ _ (⟨#[98, 97, 107, 101]⟩ : ByteArray) [.string (⟨#[98, 97, 107, 101]⟩ : ByteArray)] from rfl) (Reps.one (show Kd.M Kd.string _ _ _ (⟨#[98, 97, 107, 105, 110, 103]⟩ : ByteArray) [.string (⟨#[98, 97, 107, 105, 110, 103]⟩ : ByteArray)] from rfl) (Reps.one (show Kd.M Kd.string _ _ _ (⟨#[116, 97, 99, 116]⟩ : ByteArray) [.string (⟨#[116, 97, 99, 116]⟩ : ByteArray)] from rfl) (Reps.one (show Kd.M Kd.string _ _ _ (⟨#[99, 97, 114, 116]⟩ : ByteArray) [.string (⟨#[99, 97, 114, 116]⟩ : ByteArray)] from rfl) (Reps.one (show Kd.M Kd.string _ _ _ (⟨#[97, 98, 99, 97, 98, 99, 97, 98, 99, 97, 98, 99]⟩ : ByteArray) [.string (⟨#[97, 98, 99, 97, 98, 99, 97, 98, 99, 97, 98, 99]⟩ : ByteArray)] from rfl) (Reps.none _ _))))))))))))))))); intro v261 w19 ho20 hb hg_ hnew_; clear hg_ hnew_; (first | rw [← Ny260.out] at ho20 | (simp only [Int.reduceToNat] at ho20; rw [← Ny260.out] at ho20) | (simp only [Int.toNat_natCast] at ho20; rw [← Ny260.out] at ho20)); have HO262 := am (Kd.R_lower ho20 (keep_size (w := w) (g := g) (row := none) b0_)); replace HK := am (KeepBut.trans b0_ (KeepBut.of_below hb g none) (.inl rfl)); replace HB := am (below_step b1_ hb); replace HI0 := am (IsS127.below b2_ hb); clear hb ho20; obtain ⟨Ao21, co21, eo21⟩ := Kd.R_slice HO262.out; subst eo21) | ((with_reducible refine gate_callee (f := 110) rfl ?_); refine goesL_ (some 27) rfl rfl Try.func110 (by kernel_rfl) rfl #[.pointer (some ⟨g, 0, none⟩), .slice Ao21 y260.length co21] rfl mq ?_; (with_reducible refine (spec_l1Rd_of.calls k g s0_0 t251 _ _ y260 t263 t264 w0 _ ?side1 ?side2 ?side3 ?side4 ?side5 A17.out).mono ?_); (case side1 => repeat (first | (with_reducible first | exact HI0.out | apply IsS127.alloc | apply IsS127.drewN | apply IsS127.drew | apply IsS127.set_1) | exact HI0.out)); (case side2 => repeat (first | (with_reducible first | exact HB.out | apply below_alloc | apply pw_below_drewN | apply below_drew1 | refine below_set ?_ (IsS127.ge HI0.out)) | exact HB.out)); (case side3 => exact cq (Kd.R_reads' HO262.out).2.2); (case side4 => exact (Kd.R_reads' HO262.out).2.1); (case side5 => exact far_slice (IsS127.own_ne HI0.out HO262.out (by decide))); rintro e w22 ⟨rfl, hi, hb, hk⟩; refine ⟨_, rfl, ?_⟩; replace HO262 := am (Kd.R_mono (Kd.R_keep (IsS127.apart (show IsS127 w0 _ g s0_0 t251 from by repeat (first | (with_reducible first | exact HI0.out | apply IsS127.alloc | apply IsS127.drewN | apply IsS127.drew | apply IsS127.set_1) | exact HI0.out)) (rq HO262.out) (by decide)) hk (fun _ h => h.2)) (fun _ h => h.1)); replace HK := am (KeepBut.trans b0_ hk (.inl rfl)); replace HB := am (hb); replace HI0 := am (hi); (try clear hb); (try clear hb2); (try clear hk); (try clear hi)))
 go_ret
 exact ⟨eq_, b2_, b1_, b0_⟩

/-! ### spec_l13AnyWord: function 66 -/
def spec_l13AnyWord.f (k : Nat) (s0_0 : List Int) (s0_1 : Int) : Option (ByteArray × Int) := (spec_l1Rd_pick.f k s0_0 s0_1 16).bind fun bt265 => (if bt265.1 = 0 then ((spec_l1Rd_of.f k s0_0 bt265.2 (([(⟨#[]⟩ : ByteArray), (⟨#[67, 97, 116]⟩ : ByteArray), (⟨#[97, 32, 98]⟩ : ByteArray), (⟨#[97, 98, 99, 97, 98, 99, 97, 98, 99, 97, 98, 99, 97]⟩ : ByteArray), (⟨#[120, 49]⟩ : ByteArray), (⟨#[45]⟩ : ByteArray)] : List ByteArray))).bind fun bt270 => (some (bt270.1, bt270.2))) else ((spec_l13Word.f k s0_0 bt265.2).bind fun bt272 => (some (bt272.1, bt272.2))))
theorem spec_l13AnyWord.calls (k : Nat) (g : Nat) (s0_0 : List Int) (s0_1 : Int) (r1 : ByteArray) (r2 : Int) (w0 w : World) (hI : IsS127 w0 w g s0_0 s0_1) (hB : Below w0.heap.size w0 w) (h : spec_l13AnyWord.f k s0_0 s0_1 = some (r1, r2)) :
  Calls Try.prog 66 #[.pointer (some ⟨g, 0, none⟩)] w fun e w' => e = .returned (.string r1) ∧ IsS127 w0 w' g s0_0 r2 ∧ Below w0.heap.size w0 w' ∧ KeepBut w w' g none := by
 have HI0 := am hI; have HK := am (KeepBut.refl w g none); have HL := am hB.size; clear hI; have HW0 := am hB.size; have HB := am hB; clear hB
 have H : ((spec_l1Rd_pick.f k s0_0 s0_1 16).bind fun bt265 => (if bt265.1 = 0 then ((spec_l1Rd_of.f k s0_0 bt265.2 (([(⟨#[]⟩ : ByteArray), (⟨#[67, 97, 116]⟩ : ByteArray), (⟨#[97, 32, 98]⟩ : ByteArray), (⟨#[97, 98, 99, 97, 98, 99, 97, 98, 99, 97, 98, 99, 97]⟩ : ByteArray), (⟨#[120, 49]⟩ : ByteArray), (⟨#[45]⟩ : ByteArray)] : List ByteArray))).bind fun bt270 => (some (bt270.1, bt270.2))) else ((spec_l13Word.f k s0_0 bt265.2).bind fun bt272 => (some (bt272.1, bt272.2))))) = some (r1, r2) := h
 clear h; replace H := bs H; obtain ⟨⟨t265, t266⟩, A20, H⟩ := H; replace H : (if t265 = 0 then ((spec_l1Rd_of.f k s0_0 t266 (([(⟨#[]⟩ : ByteArray), (⟨#[67, 97, 116]⟩ : ByteArray), (⟨#[97, 32, 98]⟩ : ByteArray), (⟨#[97, 98, 99, 97, 98, 99, 97, 98, 99, 97, 98, 99, 97]⟩ : ByteArray), (⟨#[120, 49]⟩ : ByteArray), (⟨#[45]⟩ : ByteArray)] : List ByteArray))).bind fun bt270 => (some (bt270.1, bt270.2))) else ((spec_l13Word.f k s0_0 t266).bind fun bt272 => (some (bt272.1, bt272.2)))) = some (r1, r2) := H; have A2 := Aside0.mk A20; clear A20
 by_cases c3 : t265 = 0
 ·rw [if_pos c3] at H
  have c3b0 : (t265 == 0) = true := beq_iff_eq.mpr c3
  have c3b1 : (t265 != 0) = false := bne_eq_false_iff_eq.mpr c3
  clear c3; obtain ⟨y267, hy267⟩ : ∃ y_ : List ByteArray, y_ = (([(⟨#[]⟩ : ByteArray), (⟨#[67, 97, 116]⟩ : ByteArray), (⟨#[97, 32, 98]⟩ : ByteArray), (⟨#[97, 98, 99, 97, 98, 99, 97, 98, 99, 97, 98, 99, 97]⟩ : ByteArray), (⟨#[120, 49]⟩ : ByteArray), (⟨#[45]⟩ : ByteArray)] : List ByteArray)) := ⟨_, rfl⟩
  replace H : ((spec_l1Rd_of.f k s0_0 t266 y267).bind fun bt270 => (some (bt270.1, bt270.2))) = some (r1, r2) := by first | (rw [hy267]; with_reducible exact H) | (have H2_ := bm H; rw [hy267]; with_reducible exact H2_) | (with_reducible exact bm H) | with_reducible exact H | (rw [hy267]; exact H) | exact H
  have Ny267 := am hy267; clear hy267; replace H := bs H; obtain ⟨⟨t270, t271⟩, A40, H⟩ := H; replace H : (some (t270, t271)) = some (r1, r2) := H; have A4 := Aside0.mk A40; clear A40
  simp only [Option.some.injEq, Prod.mk.injEq] at H
  obtain ⟨rfl, rfl⟩ := H; go_enter Try.func66, Try.ntmps66
  go_wp2_with (first | ((with_reducible refine gate_callee (f := 67) rfl ?_); refine goesL_ (some 4) rfl rfl Try.func67 (by kernel_rfl) rfl #[.pointer (some ⟨g, 0, none⟩), .int .i64 16] rfl mq ?_; (with_reducible refine (spec_l1Rd_pick.calls k g s0_0 s0_1 16 t265 t266 w0 _ ?side1 ?side2 A2.out).mono ?_); (case side1 => repeat (first | (with_reducible first | exact HI0.out | apply IsS127.alloc | apply IsS127.drewN | apply IsS127.drew | apply IsS127.set_1) | exact HI0.out)); (case side2 => repeat (first | (with_reducible first | exact HB.out | apply below_alloc | apply pw_below_drewN | apply below_drew1 | refine below_set ?_ (IsS127.ge HI0.out)) | exact HB.out)); rintro e w5 ⟨rfl, hi, hb, hk⟩; refine ⟨_, rfl, ?_⟩; replace HK := am (KeepBut.trans b0_ hk (.inl rfl)); replace HB := am (hb); replace HI0 := am (hi); (try clear hb); (try clear hb2); (try clear hk); (try clear hi)) | ((with_reducible refine gate_dst (N := 7) rfl ?_); refine Kd.R_lit Kd.string _ 9 ?hg (N := 7) ?hd (xs := ([(⟨#[]⟩ : ByteArray), (⟨#[67, 97, 116]⟩ : ByteArray), (⟨#[97, 32, 98]⟩ : ByteArray), (⟨#[97, 98, 99, 97, 98, 99, 97, 98, 99, 97, 98, 99, 97]⟩ : ByteArray), (⟨#[120, 49]⟩ : ByteArray), (⟨#[45]⟩ : ByteArray)] : List ByteArray)) (inner := [.string (⟨#[]⟩ : ByteArray), .string (⟨#[67, 97, 116]⟩ : ByteArray), .string (⟨#[97, 32, 98]⟩ : ByteArray), .string (⟨#[97, 98, 99, 97, 98, 99, 97, 98, 99, 97, 98, 99, 97]⟩ : ByteArray), .string (⟨#[120, 49]⟩ : ByteArray), .string (⟨#[45]⟩ : ByteArray)]) (ok := fun _ => True) (okp := fun _ => True) ?hr ?hp (fun _ hk => hk) trivial (Below.refl _ _) (Nat.le_refl _) (by simp) ?_; (case hd => rfl); (case hg => rfl); (case hr => first | (go_simp; done) | (go_simp; rfl)); (case hp => exact (Reps.one (show Kd.M Kd.string _ _ _ (⟨#[]⟩ : ByteArray) [.string (⟨#[]⟩ : ByteArray)] from rfl) (Reps.one (show Kd.M Kd.string _ _ _ (⟨#[67, 97, 116]⟩ : ByteArray) [.string (⟨#[67, 97, 116]⟩ : ByteArray)] from rfl) (Reps.one (show Kd.M Kd.string _ _ _ (⟨#[97, 32, 98]⟩ : ByteArray) [.string (⟨#[97, 32, 98]⟩ : ByteArray)] from rfl) (Reps.one (show Kd.M Kd.string _ _ _ (⟨#[97, 98, 99, 97, 98, 99, 97, 98, 99, 97, 98, 99, 97]⟩ : ByteArray) [.string (⟨#[97, 98, 99, 97, 98, 99, 97, 98, 99, 97, 98, 99, 97]⟩ : ByteArray)] from rfl) (Reps.one (show Kd.M Kd.string _ _ _ (⟨#[120, 49]⟩ : ByteArray) [.string (⟨#[120, 49]⟩ : ByteArray)] from rfl) (Reps.one (show Kd.M Kd.string _ _ _ (⟨#[45]⟩ : ByteArray) [.string (⟨#[45]⟩ : ByteArray)] from rfl) (Reps.none _ _)))))))); intro v268 w6 ho7 hb hg_ hnew_; clear hg_ hnew_; (first | rw [← Ny267.out] at ho7 | (simp only [Int.reduceToNat] at ho7; rw [← Ny267.out] at ho7) | (simp only [Int.toNat_natCast] at ho7; rw [← Ny267.out] at ho7)); have HO269 := am (Kd.R_lower ho7 (keep_size (w := w) (g := g) (row := none) b0_)); replace HK := am (KeepBut.trans b0_ (KeepBut.of_below hb g none) (.inl rfl)); replace HB := am (below_step b1_ hb); replace HI0 := am (IsS127.below b2_ hb); clear hb ho7; obtain ⟨Ao8, co8, eo8⟩ := Kd.R_slice HO269.out; subst eo8) | ((with_reducible refine gate_callee (f := 110) rfl ?_); refine goesL_ (some 8) rfl rfl Try.func110 (by kernel_rfl) rfl #[.pointer (some ⟨g, 0, none⟩), .slice Ao8 y267.length co8] rfl mq ?_; (with_reducible refine (spec_l1Rd_of.calls k g s0_0 t266 _ _ y267 t270 t271 w0 _ ?side1 ?side2 ?side3 ?side4 ?side5 A4.out).mono ?_); (case side1 => repeat (first | (with_reducible first | exact HI0.out | apply IsS127.alloc | apply IsS127.drewN | apply IsS127.drew | apply IsS127.set_1) | exact HI0.out)); (case side2 => repeat (first | (with_reducible first | exact HB.out | apply below_alloc | apply pw_below_drewN | apply below_drew1 | refine below_set ?_ (IsS127.ge HI0.out)) | exact HB.out)); (case side3 => exact cq (Kd.R_reads' HO269.out).2.2); (case side4 => exact (Kd.R_reads' HO269.out).2.1); (case side5 => exact far_slice (IsS127.own_ne HI0.out HO269.out (by decide))); rintro e w9 ⟨rfl, hi, hb, hk⟩; refine ⟨_, rfl, ?_⟩; replace HO269 := am (Kd.R_mono (Kd.R_keep (IsS127.apart (show IsS127 w0 _ g s0_0 t266 from by repeat (first | (with_reducible first | exact HI0.out | apply IsS127.alloc | apply IsS127.drewN | apply IsS127.drew | apply IsS127.set_1) | exact HI0.out)) (rq HO269.out) (by decide)) hk (fun _ h => h.2)) (fun _ h => h.1)); replace HK := am (KeepBut.trans b0_ hk (.inl rfl)); replace HB := am (hb); replace HI0 := am (hi); (try clear hb); (try clear hb2); (try clear hk); (try clear hi)))
  go_ret
  exact ⟨eq_, b2_, b1_, b0_⟩
 rw [if_neg c3] at H
 have c3b0 : (t265 == 0) = false := beq_eq_false_iff_ne.mpr c3
 have c3b1 : (t265 != 0) = true := bne_iff_ne.mpr c3
 replace H := bs H; obtain ⟨⟨t272, t273⟩, A100, H⟩ := H; replace H : (some (t272, t273)) = some (r1, r2) := H; have A10 := Aside0.mk A100; clear A100
 simp only [Option.some.injEq, Prod.mk.injEq] at H
 obtain ⟨rfl, rfl⟩ := H; go_enter Try.func66, Try.ntmps66
 go_wp2_with (first | ((with_reducible refine gate_callee (f := 67) rfl ?_); refine goesL_ (some 4) rfl rfl Try.func67 (by kernel_rfl) rfl #[.pointer (some ⟨g, 0, none⟩), .int .i64 16] rfl mq ?_; (with_reducible refine (spec_l1Rd_pick.calls k g s0_0 s0_1 16 t265 t266 w0 _ ?side1 ?side2 A2.out).mono ?_); (case side1 => repeat (first | (with_reducible first | exact HI0.out | apply IsS127.alloc | apply IsS127.drewN | apply IsS127.drew | apply IsS127.set_1) | exact HI0.out)); (case side2 => repeat (first | (with_reducible first | exact HB.out | apply below_alloc | apply pw_below_drewN | apply below_drew1 | refine below_set ?_ (IsS127.ge HI0.out)) | exact HB.out)); rintro e w11 ⟨rfl, hi, hb, hk⟩; refine ⟨_, rfl, ?_⟩; replace HK := am (KeepBut.trans b0_ hk (.inl rfl)); replace HB := am (hb); replace HI0 := am (hi); (try clear hb); (try clear hb2); (try clear hk); (try clear hi)) | ((with_reducible refine gate_callee (f := 111) rfl ?_); refine goesL_ (some 10) rfl rfl Try.func111 (by kernel_rfl) rfl #[.pointer (some ⟨g, 0, none⟩)] rfl mq ?_; (with_reducible refine (spec_l13Word.calls k g s0_0 t266 t272 t273 w0 _ ?side1 ?side2 A10.out).mono ?_); (case side1 => repeat (first | (with_reducible first | exact HI0.out | apply IsS127.alloc | apply IsS127.drewN | apply IsS127.drew | apply IsS127.set_1) | exact HI0.out)); (case side2 => repeat (first | (with_reducible first | exact HB.out | apply below_alloc | apply pw_below_drewN | apply below_drew1 | refine below_set ?_ (IsS127.ge HI0.out)) | exact HB.out)); rintro e w12 ⟨rfl, hi, hb, hk⟩; refine ⟨_, rfl, ?_⟩; replace HK := am (KeepBut.trans b0_ hk (.inl rfl)); replace HB := am (hb); replace HI0 := am (hi); (try clear hb); (try clear hb2); (try clear hk); (try clear hi)))
 go_ret
 exact ⟨eq_, b2_, b1_, b0_⟩
end Go.Proofs.Ytfpmfaelodfecaa.QFnMachineRank
