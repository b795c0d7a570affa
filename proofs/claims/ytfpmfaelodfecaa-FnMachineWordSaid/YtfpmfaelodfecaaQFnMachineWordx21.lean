import Derived.Test.YtfpmfaelodfecaaQFnMachineWordx0
import Derived.Test.YtfpmfaelodfecaaQFnMachineWordx6
import Derived.Test.YtfpmfaelodfecaaQFnMachineWordx20
import Derived.Test.YtfpmfaelodfecaaVMSh2
namespace Go.Proofs.Ytfpmfaelodfecaa.QFnMachineWord
open Go.RowKit Go.Proofs.YtfpmfaelodfecaaW.PrintWords Go.Proofs.YtfpmfaelodfecaaW.PrintLast Go.Proofs.YtfpmfaelodfecaaW.PrintMore Go.Proofs.Ytfpmfaelodfecaa.Sh
attribute [local go_sem] max2_int min2_int max_two min_two max_three min_three max_four min_four   -- for this text's walks alone
set_option linter.unusedVariables false
set_option linter.unusedSimpArgs false
-- shrunk

/-! ### spec_l3Counts: function 83 -/
mutual
def spec_l3Counts.l0 : Nat → List (S94) → List Int → Int → Option (List Int)
 | 0, _, _, _ => none
 | k + 1, x0, x3, x4 => if x4 ≥ 0 then (if 0 ≤ x4 then (if x4 < (x0.length : Int) then (if (rd_T94 x0 x4).f0 = true then (if x4 < (x3.length : Int) then (spec_l3Counts.j1 k x0 (x3.set (x4 : Int).toNat 1) x4) else (none)) else (spec_l3Counts.j1 k x0 x3 x4)) else (none)) else (none)) else (some x3)
def spec_l3Counts.j1 : Nat → List (S94) → List Int → Int → Option (List Int)
 | 0, _, _, _ => none
 | k + 1, x0, x3, x4 => spec_l3Counts.l1 k x0 x3 x4 0
def spec_l3Counts.l1 : Nat → List (S94) → List Int → Int → Int → Option (List Int)
 | 0, _, _, _, _ => none
 | k + 1, x0, x3, x4, x5 => if 0 ≤ x4 then (if x4 < (x0.length : Int) then (if x5 < (((rd_T94 x0 x4).f1).length : Int) then (if x4 < (x3.length : Int) then (if 0 ≤ x5 then (if 0 ≤ ((rd_T100 ((rd_T94 x0 x4).f1) x5).f1) then (if ((rd_T100 ((rd_T94 x0 x4).f1) x5).f1) < (x3.length : Int) then ((spec_l1Least.f (wrap64 ((rd x3 x4) + (rd x3 ((rd_T100 ((rd_T94 x0 x4).f1) x5).f1)))) 1000000000).bind fun t541 => (spec_l3Counts.l1 k x0 (x3.set (x4 : Int).toNat t541) x4 (wrap64 (x5 + 1)))) else (none)) else (none)) else (none)) else (none)) else (spec_l3Counts.l0 k x0 x3 (wrap64 (x4 - 1)))) else (none)) else (none)
end
def spec_l3Counts.f (k : Nat) (l0 : List (S94)) : Option (List Int) := if 0 ≤ (l0.length : Int) then (if l0.length ≤ 35184372088832 then (spec_l3Counts.l0 k l0 (List.replicate l0.length 0) (wrap64 ((l0.length : Int) - 1))) else (none)) else (none)
def spec_l3Counts.T10 : Bool × List (List Nat × List Nat) := (true, [([], []), ([], []), ([], []), ([], []), ([2, 3], [2, 3]), ([4], [4]), ([], []), ([], []), ([], []), ([7, 8], [7, 8]), ([9], [9]), ([10], [10]), ([], []), ([11, 12], [11, 12]), ([13], [13]), ([14], [14]), ([6, 15], [6, 15]), ([16], [16]), ([5, 17], [5, 17]), ([18], [18]), ([0, 1, 0, 1, 2, 3, 4, 5, 6, 7, 8, 9, 10, 11, 12, 13, 14, 15, 16, 17, 18, 19], [0, 1]), ([20, 19, 19, 0, 1, 2, 3, 4, 5, 6, 7, 8, 9, 10, 11, 12, 13, 14, 15, 16, 17, 18, 19], [19, 20])])
def spec_l3Counts.B10 : List Nat := [0, 0, 0, 0, 12, 28, 0, 0, 0, 384, 896, 1920, 0, 8064, 16256, 32640, 65472, 131008, 262140, 524284, 1048575, 2097151]
theorem spec_l3Counts.tab10 : rtab .any (opsOf Try.f83 10) = spec_l3Counts.T10 := by kernel_rfl
theorem spec_l3Counts.bits10 : waitsOk spec_l3Counts.T10.2 spec_l3Counts.B10 = true := by kernel_rfl
set_option maxHeartbeats 8000000 in
set_option maxRecDepth 100000 in
theorem spec_l3Counts.calls (k : Nat) (A0 : Option Addr) (c0 : Nat) (l0 : List (S94)) (r : List Int) (w : World) (hr0 : Kd.C k94 w A0 l0.length l0) (hc0 : l0.length ≤ c0) (h : spec_l3Counts.f k l0 = some r) :
  Calls Try.prog 83 #[.slice A0 l0.length c0] w fun e w' => ∃ v0_ : Value, e = .returned (v0_) ∧ Kd.R (Kd.int .i64) 3 w' w.heap.size (fun _ => True) v0_ r ∧ Below w.heap.size w w' := by
 have HR0 := am hr0; have HC0 := am hc0; clear hr0 hc0; have HB := am (Below.refl w.heap.size w)
 have H : (if 0 ≤ (l0.length : Int) then (if l0.length ≤ 35184372088832 then (spec_l3Counts.l0 k l0 (List.replicate l0.length 0) (wrap64 ((l0.length : Int) - 1))) else (none)) else (none)) = some r := h
 clear h
 by_cases c2 : 0 ≤ (l0.length : Int)
 ·rw [if_pos c2] at H; have c2b0 := eq_true c2
  have c2b1 : decide (0 ≤ (l0.length : Int)) = true := decide_eq_true c2
  clear c2
  by_cases c3 : l0.length ≤ 35184372088832
  ·rw [if_pos c3] at H; have c3b0 := eq_true c3
   have c3b1 : decide (l0.length ≤ 35184372088832) = true := decide_eq_true c3
   clear c3; obtain ⟨y531, hy531⟩ : ∃ y_ : List Int, y_ = (List.replicate l0.length 0) := ⟨_, rfl⟩
   replace H : (spec_l3Counts.l0 k l0 y531 (wrap64 ((l0.length : Int) - 1))) = some r := by first | (rw [hy531]; with_reducible exact H) | (have H2_ := (Option.bind_some _ _).symm.trans H; rw [hy531]; with_reducible exact H2_) | (have H2_ := (Option.bind_some _ _).symm.trans H; with_reducible exact H2_) | with_reducible exact H | (rw [hy531]; exact H) | exact H
   have Ny531 := am hy531; clear hy531
   have H' := am H
   clear H; go_enter Try.func83, Try.ntmps83
   go_wp2_with (first | ((with_reducible refine gate_dst (N := 8) rfl ?_); refine Kd.R_make (Kd.int .i64) _ 3 rfl (N := 8) rfl 86 _ _ rfl (l0.length : Int) rfl rfl Try.underlying86 (.int .i64 0) 8 info3 rfl (by decide) (by omega) 0 (ok := fun _ => True) (okp := fun _ => True) rfl (fun _ hk => hk) trivial (of_decide_eq_true ad) (Nat.le_trans (Nat.mul_le_mul_right _ (of_decide_eq_true ad : (l0.length : Int).toNat ≤ 35184372088832)) (by omega)) (Below.refl _ _) (Nat.le_refl _) ?_; intro v532 w4 ho5 hb hg_ hnew_; clear hg_ hnew_; (first | rw [← Ny531.out] at ho5 | (simp only [Int.reduceToNat] at ho5; rw [← Ny531.out] at ho5) | (simp only [Int.toNat_natCast] at ho5; rw [← Ny531.out] at ho5)); have HO533 := am (Kd.R_lower ho5 (below_size bel)); replace HB := am (below_step bel hb); clear hb ho5))
   go_loopg [4] k (fun kq v4 w' => ∃ (x3_1 : List Int) (x4_1 : Int), v4 = .int .i64 x4_1 ∧ Aside0 (spec_l3Counts.l0 kq l0 x3_1 x4_1 = some r) ∧ Aside0 (kq ≤ k) ∧ Aside0 (Kd.R (Kd.int .i64) 3 w' w.heap.size (fun _ => True) v532 x3_1) ∧ Aside0 (Below w.heap.size w w'))
   case atStart => exact ⟨(y531), (wrap64 ((l0.length : Int) - 1)), sq, H', ⟨Nat.le_refl _⟩, ⟨rq HO533.out⟩, ⟨bel⟩⟩
   case round =>
    clear H'; (try clear c2); (try clear c2b0); (try clear c2b1); (try clear p2); (try clear c3); (try clear c3b0); (try clear c3b1); obtain ⟨x3_1, x4_1, rfl, HA, HK1, HO_3, HB⟩ := hrel
    cases gk with
    | zero => exact absurd HA.out (by simp [spec_l3Counts.l0])
    | succ k1 =>
     have H := HA.out; clear HA
     simp only [spec_l3Counts.l0] at H
     by_cases c6 : x4_1 ≥ 0
     ·rw [if_pos c6] at H; have c6b0 := decide_eq_true c6; clear c6
      by_cases c7 : 0 ≤ x4_1
      ·rw [if_pos c7] at H; have c7b0 := decide_eq_true c7; clear c7
       by_cases c8 : x4_1 < (l0.length : Int)
       ·rw [if_pos c8] at H; have c8b0 := decide_eq_true c8; clear c8; have HC9 := am H; clear H
        have p534 : 0 ≤ (x4_1 : Int) := of_decide_eq_true ad
        have q534 : x4_1 < (l0.length : Int) := of_decide_eq_true ad
        obtain ⟨ad534, A534_1, c534_1, e534, hx534_0, hx534_1, hl534_1, hi534_1⟩ := at_T94 HR0.out x4_1 p534 q534
        cases e534
        replace hx534_0 := kp HB.out hx534_0; replace hx534_1 := kp HB.out hx534_1; have HR534_1 := am hi534_1; have HC534_1 := am hl534_1; clear hi534_1 hl534_1; replace p534 := eq_true p534; replace q534 := eq_true q534
        go_upto_if 20 with (fail)
        go_cut [] (fun wc => ∃ (kq : Nat) (x3_8 : List Int), Aside0 (spec_l3Counts.j1 kq l0 x3_8 x4_1 = some r) ∧ Aside0 (kq ≤ k1) ∧ Aside0 (Kd.R (Kd.int .i64) 3 wc w.heap.size (fun _ => True) v532 x3_8) ∧ Aside0 (Below w.heap.size w wc))
        case first =>
         have H := HC9.out; clear HC9; obtain ⟨bq10, hbq10⟩ : ∃ b_ : Bool, b_ = ((rd_T94 l0 x4_1).f0) := ⟨_, rfl⟩
         replace H : (if bq10 = true then (if x4_1 < (x3_1.length : Int) then (spec_l3Counts.j1 k1 l0 (x3_1.set (x4_1 : Int).toNat 1) x4_1) else (none)) else (spec_l3Counts.j1 k1 l0 x3_1 x4_1)) = some r := by rw [← hbq10] at H; exact H
         have Nbq10 := am hbq10; clear hbq10
         (try rw [← Nbq10.out])
         by_cases c11 : bq10 = true
         ·subst c11
          have H1 : (if x4_1 < (x3_1.length : Int) then (spec_l3Counts.j1 k1 l0 (x3_1.set (x4_1 : Int).toNat 1) x4_1) else (none)) = some r := b20_
          replace H := H1; clear H1
          by_cases c12 : x4_1 < (x3_1.length : Int)
          ·rw [if_pos c12] at H; have c12b0 := decide_eq_true c12; clear c12; obtain ⟨y535, hy535⟩ : ∃ y_ : List Int, y_ = (x3_1.set (x4_1 : Int).toNat 1) := ⟨_, rfl⟩
           replace H : (spec_l3Counts.j1 k1 l0 y535 x4_1) = some r := by first | (rw [hy535]; with_reducible exact H) | (have H2_ := (Option.bind_some _ _).symm.trans H; rw [hy535]; with_reducible exact H2_) | (have H2_ := (Option.bind_some _ _).symm.trans H; with_reducible exact H2_) | with_reducible exact H | (rw [hy535]; exact H) | exact H
           have Ny535 := am hy535; clear hy535
           have H' := am H
           clear H
           have p13 : 0 ≤ (x4_1 : Int) := of_decide_eq_true ad
           have q13 : (x4_1 : Int) < ((x3_1.length : Int) : Int) := of_decide_eq_true ad
           obtain ⟨go13, co13, eo13, gb13, gl13, cl13, HG13⟩ := Kd.R_form HO_3.out (by omega)
           (first | cases eo13 | (injection eo13 with ea_ en_ ec_; (first | subst ea_ | (injection ea_ with ea_; subst ea_)); subst ec_; clear en_))
           have GB13 := Aside0.mk gb13; have GG13 := am HG13; clear gb13 gl13 HG13; obtain ⟨hx13_0, hf13_0⟩ := Kd.R_celln 0 HO_3.out (x4_1 : Int) p13 q13; replace p13 := eq_true p13; replace q13 := eq_true q13; have HP14 := Kd.R_putg HO_3.out (x4_1 : Int) 1
           go_wp2_with (first | ((with_reducible refine gate_store (t := 3) (p := 23) rfl ?_); refine store_event (t := 3) (p := 23) (v := ?vo_w15) (w1 := (wr.setCell ⟨go13, (x4_1 : Int).toNat, none⟩ (.int .i64 1))) ?hg ?ho ?hn ?hr ?_; (case ho => rfl); (case hg => rfl); (case hn => rfl); (case hr => first | (go_simp; done) | (go_simp; rfl)); intro w15 hw; have hg : wr.grownBy w15 (some go13) := (by rw [hw]; exact HP14.2); have hp_ : Kd.R (Kd.int .i64) 3 w15 w.heap.size (fun _ => True) (.slice (some ⟨go13, 0, none⟩) x3_1.length co13) y535 := (by rw [hw, Ny535.out]; exact HP14.1); clear HP14; replace HO_3 := am (hp_); replace HB := am ((by rw [hw]; exact below_set (HB.out) GB13.out : Below w.heap.size w w15)); clear hg hw hp_))
           go_meet
           case rel => exact ⟨_, (y535), H', ⟨b24_⟩, ⟨rq HO_3.out⟩, ⟨bel⟩⟩
          ·rw [if_neg c12] at H
           exact absurd H (by simp)
         ·replace c11 := Bool.eq_false_iff.mpr c11; subst c11
          (try rw [← Nbq10.out] at hx534_0)
          (try rw [← Nbq10.out])
          have H1 : (spec_l3Counts.j1 k1 l0 x3_1 x4_1) = some r := b6_
          replace H := H1; clear H1
          have H' := am H
          clear H; go_wp2
          go_meet
          case rel => (try rw [← Nbq10.out]); exact ⟨_, (x3_1), H', ⟨b24_⟩, ⟨rq HO_3.out⟩, ⟨bel⟩⟩
        case rest =>
         clear HC9; (try clear c1); (try clear p1); (try clear q1); (try clear hx1); (try clear hf1); (try clear c2); (try clear c2b0); (try clear c2b1); (try clear p2); (try clear c3); (try clear c3b0); (try clear c3b1); (try clear c5); (try clear p5); (try clear q5); (try clear hx5); (try clear c6); (try clear c6b0); (try clear p6); (try clear c7); (try clear c7b0); (try clear c8); (try clear c8b0); (try clear q10); (try clear c11); (try clear c12); (try clear c12b0); (try clear p13); (try clear q13); (try clear hx13); (try clear hf13); (try clear hx13_0); (try clear hx534_0); (try clear hx534_1); (try clear p13); (try clear p2); (try clear p534); (try clear q13); (try clear q534); obtain ⟨kq, x3_8, HA, HJ8, HO_3, HB⟩ := hcut
         cases kq with
         | zero => exact absurd HA.out (by simp [spec_l3Counts.j1])
         | succ kj8 =>
          have H := HA.out; clear HA
          simp only [spec_l3Counts.j1] at H
          have H' := am H
          clear H; go_wp2
          go_loopg [5] kj8 (fun kq v5 w' => ∃ (x3_3 : List Int) (x5_3 : Int), v5 = .int .i64 x5_3 ∧ Aside0 (spec_l3Counts.l1 kq l0 x3_3 x4_1 x5_3 = some r) ∧ Aside0 (kq ≤ kj8) ∧ Aside0 (Kd.R (Kd.int .i64) 3 w' w.heap.size (fun _ => True) v532 x3_3) ∧ Aside0 (Below w.heap.size w w'))
          case atStart => exact ⟨(x3_8), (0), sq, H', ⟨Nat.le_refl _⟩, ⟨rq HO_3.out⟩, ⟨bel⟩⟩
          case round =>
           clear H'; (try clear c1); (try clear p1); (try clear q1); (try clear hx1); (try clear hf1); (try clear c2); (try clear c2b0); (try clear c2b1); (try clear p2); (try clear c3); (try clear c3b0); (try clear c3b1); (try clear c5); (try clear p5); (try clear q5); (try clear hx5); (try clear c6); (try clear c6b0); (try clear p6); (try clear c7); (try clear c7b0); (try clear c8); (try clear c8b0); (try clear q10); (try clear c11); (try clear c12); (try clear c12b0); (try clear p13); (try clear q13); (try clear hx13); (try clear hf13); (try clear hx13_0); (try clear hx534_0); (try clear hx534_1); (try clear p1); (try clear p13); (try clear p2); (try clear p5); (try clear p534); (try clear p6); (try clear q1); (try clear q10); (try clear q13); (try clear q5); (try clear q534); obtain ⟨x3_3, x5_3, rfl, HA, HK3, HO_3, HB⟩ := hrel
           cases gk with
           | zero => exact absurd HA.out (by simp [spec_l3Counts.l1])
           | succ k3 =>
            have H := HA.out; clear HA
            simp only [spec_l3Counts.l1] at H
            by_cases c16 : 0 ≤ x4_1
            ·rw [if_pos c16] at H; have c16b0 := decide_eq_true c16; clear c16
             by_cases c17 : x4_1 < (l0.length : Int)
             ·rw [if_pos c17] at H; have c17b0 := decide_eq_true c17; clear c17
              by_cases c18 : x5_3 < (((rd_T94 l0 x4_1).f1).length : Int)
              ·rw [if_pos c18] at H; have c18b0 := decide_eq_true c18; clear c18
               by_cases c19 : x4_1 < (x3_3.length : Int)
               ·rw [if_pos c19] at H; have c19b0 := decide_eq_true c19; clear c19
                by_cases c20 : 0 ≤ x5_3
                ·rw [if_pos c20] at H; have c20b0 := decide_eq_true c20; clear c20
                 by_cases c21 : 0 ≤ ((rd_T100 ((rd_T94 l0 x4_1).f1) x5_3).f1)
                 ·rw [if_pos c21] at H; have c21b0 := decide_eq_true c21; clear c21
                  by_cases c22 : ((rd_T100 ((rd_T94 l0 x4_1).f1) x5_3).f1) < (x3_3.length : Int)
                  ·rw [if_pos c22] at H; have c22b0 := decide_eq_true c22; clear c22; replace H := Option.bind_eq_some_iff.mp H; obtain ⟨t541, A230, H⟩ := H; replace H : (spec_l3Counts.l1 k3 l0 (x3_3.set (x4_1 : Int).toNat t541) x4_1 (wrap64 (x5_3 + 1))) = some r := H; have A23 := Aside0.mk A230; clear A230; obtain ⟨y542, hy542⟩ : ∃ y_ : List Int, y_ = (x3_3.set (x4_1 : Int).toNat t541) := ⟨_, rfl⟩
                   replace H : (spec_l3Counts.l1 k3 l0 y542 x4_1 (wrap64 (x5_3 + 1))) = some r := by first | (rw [hy542]; with_reducible exact H) | (have H2_ := (Option.bind_some _ _).symm.trans H; rw [hy542]; with_reducible exact H2_) | (have H2_ := (Option.bind_some _ _).symm.trans H; with_reducible exact H2_) | with_reducible exact H | (rw [hy542]; exact H) | exact H
                   have Ny542 := am hy542; clear hy542
                   have H' := am H
                   clear H
                   have p536 : 0 ≤ (x4_1 : Int) := of_decide_eq_true ad
                   have q536 : x4_1 < (l0.length : Int) := of_decide_eq_true ad
                   obtain ⟨ad536, A536_1, c536_1, e536, hx536_0, hx536_1, hl536_1, hi536_1⟩ := at_T94 HR0.out x4_1 p536 q536
                   obtain rfl : ad534 = ad536 := (by injection e536)
                   replace hx536_0 := kp HB.out hx536_0; replace hx536_1 := kp HB.out hx536_1; have HR536_1 := am hi536_1; have HC536_1 := am hl536_1; clear hi536_1 hl536_1; replace p536 := eq_true p536; replace q536 := eq_true q536
                   try go_wp2
                   replace HO_3 := am (Kd.R_drew HO_3.out); replace HB := am (below_drew1 HB.out); obtain ⟨Ao26, co26, eo26⟩ := Kd.R_slice HO_3.out
                   (first | subst eo26 | (injection eo26 with f1_ f2_ f3_; have f4_ := f1_.symm; have f5_ := f3_.symm; clear f1_ f2_ f3_; subst f4_; subst f5_))
                   have p537 : 0 ≤ (x4_1 : Int) := of_decide_eq_true ad
                   have q537 : x4_1 < (x3_3.length : Int) := of_decide_eq_true ad
                   obtain ⟨ad537, e537, hx537_0⟩ := Kd.at_int (Kd.R_reads' HO_3.out).2.2 x4_1 p537 q537
                   cases e537
                   replace p537 := eq_true p537; replace q537 := eq_true q537
                   have p538 : 0 ≤ (x4_1 : Int) := of_decide_eq_true ad
                   have q538 : x4_1 < (l0.length : Int) := of_decide_eq_true ad
                   obtain ⟨ad538, A538_1, c538_1, e538, hx538_0, hx538_1, hl538_1, hi538_1⟩ := at_T94 HR0.out x4_1 p538 q538; have hw538_1 := hx538_1; have hw538_0 := hx538_0
                   obtain rfl : ad534 = ad538 := (by injection e538)
                   replace hx538_0 := kp HB.out hx538_0; replace hx538_1 := kp HB.out hx538_1; have HR538_1 := am hi538_1; have HC538_1 := am hl538_1; clear hi538_1 hl538_1; replace p538 := eq_true p538; replace q538 := eq_true q538
                   have p539 : 0 ≤ (x5_3 : Int) := of_decide_eq_true ad
                   have q539 : x5_3 < (((rd_T94 l0 x4_1).f1).length : Int) := of_decide_eq_true ad
                   obtain ⟨ad539, e539, hx539_0, hx539_1⟩ := at_T100 HR538_1.out x5_3 p539 q539; have hw539_1 := hx539_1; have hw539_0 := hx539_0
                   cases e539
                   replace hx539_0 := kp HB.out hx539_0; replace hx539_1 := kp HB.out hx539_1; replace p539 := eq_true p539; replace q539 := eq_true q539
                   have p540 : 0 ≤ (((rd_T100 ((rd_T94 l0 x4_1).f1) x5_3).f1) : Int) := of_decide_eq_true ad
                   have q540 : ((rd_T100 ((rd_T94 l0 x4_1).f1) x5_3).f1) < (x3_3.length : Int) := of_decide_eq_true ad
                   obtain ⟨ad540, e540, hx540_0⟩ := Kd.at_int (Kd.R_reads' HO_3.out).2.2 ((rd_T100 ((rd_T94 l0 x4_1).f1) x5_3).f1) p540 q540
                   obtain rfl : ad537 = ad540 := (by injection e540)
                   replace p540 := eq_true p540; replace q540 := eq_true q540
                   refine start_ (n := 22) (S := fun w' => w'.cell? (ad537.add (x4_1).toNat) = some (.int .i64 (rd x3_3 x4_1)) ∧ w'.cell? (ad534.add ((x4_1).toNat * 2)) = some (.bool ((rd_T94 l0 x4_1).f0)) ∧ w'.cell? ⟨(ad534.add ((x4_1).toNat * 2)).block, (ad534.add ((x4_1).toNat * 2)).off + 1, none⟩ = some (.slice (some ad539) ((rd_T94 l0 x4_1).f1).length c538_1) ∧ w'.cell? (ad539.add ((x5_3).toNat * 2)) = some (.int .i64 ((rd_T100 ((rd_T94 l0 x4_1).f1) x5_3).f0)) ∧ w'.cell? ⟨(ad539.add ((x5_3).toNat * 2)).block, (ad539.add ((x5_3).toNat * 2)).off + 1, none⟩ = some (.int .i64 ((rd_T100 ((rd_T94 l0 x4_1).f1) x5_3).f1)) ∧ w'.cell? (ad537.add (((rd_T100 ((rd_T94 l0 x4_1).f1) x5_3).f1)).toNat) = some (.int .i64 (rd x3_3 ((rd_T100 ((rd_T94 l0 x4_1).f1) x5_3).f1)))) (ds := [21]) #[false, false, false, false, false, false, false, false, false, false, false, false, false, false, false, false, false, false, false, false, false, false] (by kernel_rfl) rfl rfl ⟨hx537_0, (kp HB.out hw538_0), (kp HB.out hw538_1), (kp HB.out hw539_0), (kp HB.out hw539_1), hx540_0⟩ (fun hHeld => ?_); refine with_tabW spec_l3Counts.tab10 spec_l3Counts.bits10 (fun HT_ HW_ => ?_)
                   generalize wr.drew = w25 at HO_3 HB HR538_1 hx537_0 hx538_0 hx538_1 hx539_0 hx539_1 hx540_0 hHeld ⊢
                   refine pu 0 34 ?_
                   refine pu 1 35 ?_
                   refine pu 2 36 ?_
                   refine pu 3 37 ?_
                   refine pu 4 38 ?_
                   refine pu 6 40 ?_
                   refine pu 7 41 ?_
                   refine pu 8 42 ?_
                   refine pu 9 43 ?_
                   refine pu 10 44 ?_
                   refine pu 12 46 ?_
                   refine tk6 5 39 hHeld ?_
                   refine tk6 11 45 hHeld ?_
                   refine pu 13 47 ?_
                   refine pu 14 48 ?_
                   refine tk6 15 49 hHeld ?_
                   refine pu 16 50 ?_
                   refine tk6 17 51 hHeld ?_
                   refine pu 18 52 ?_
                   refine on1 19 53 (fun K hK => ?_)
                   refine goes_ Try.func119 (by kernel_rfl) rfl #[.int .i64 (wrap64 ((rd x3_3 x4_1) + (rd x3_3 ((rd_T100 ((rd_T94 l0 x4_1).f1) x5_3).f1)))), .int .i64 1000000000] (by rfl) rfl rfl mq ?_
                   with_reducible refine (spec_l1Least.calls (wrap64 ((rd x3_3 x4_1) + (rd x3_3 ((rd_T100 ((rd_T94 l0 x4_1).f1) x5_3).f1)))) 1000000000 t541 _ A23.out).mono ?_
                   rintro e w' ⟨rfl, ⟨nd, rfl⟩⟩
                   refine ⟨_, rfl, ?_⟩
                   have p24 : 0 ≤ (x4_1 : Int) := of_decide_eq_true ad
                   have q24 : (x4_1 : Int) < ((x3_3.length : Int) : Int) := of_decide_eq_true ad
                   obtain ⟨go24, co24, eo24, gb24, gl24, cl24, HG24⟩ := Kd.R_form HO_3.out (by omega)
                   (first | cases eo24 | (injection eo24 with ea_ en_ ec_; (first | subst ea_ | (injection ea_ with ea_; subst ea_)); subst ec_; clear en_))
                   have GB24 := Aside0.mk gb24; have GG24 := am HG24; clear gb24 gl24 HG24
                   (first | simp only [add_plain] at hx537_0 | skip)
                   (first | simp only [add_plain] at hx540_0 | skip)
                   obtain ⟨hx24_0, hf24_0⟩ := Kd.R_celln 0 HO_3.out (x4_1 : Int) p24 q24; replace p24 := eq_true p24; replace q24 := eq_true q24; have HP27 := Kd.R_putn HO_3.out (x4_1 : Int) t541; rw [← Ny542.out] at HP27; have HQ27 := am HP27; clear HP27
                   refine hK.out _ _ ⟨hHeld.1, (kp HB.out hw538_0), (kp HB.out hw538_1), (kp HB.out hw539_0), (kp HB.out hw539_1), hHeld.2.2.2.2.2⟩ (fun hHeld => ?_)
                   clear hK K
                   refine norm_ (a' := ?_) ?_ ?_
                   rotate_left
                   ·show Act.put _ (some 53) _ = _
                    simp only [Act.put, List.setIfInBounds_toArray, List.set_cons_zero, List.set_cons_succ, i64_w, i32_w]
                    rfl
                   refine pu 20 54 ?_
                   refine last_ (i := 21) (N := none) #[true, true, true, true, true, true, true, true, true, true, true, true, true, true, true, true, true, true, true, true, true, true] rfl rfl (one_of HT_.out (by kernel_rfl)) (by decide) (fun K hK => ?_)
                   refine skip_ (w1 := ?_) (by rfl) rfl ?_ ?_
                   rotate_left
                   ·go_simp
                    rfl
                   refine hK.out _ _ ?_
                   clear hK K
                   refine done_ (done_of HT_.out (by kernel_rfl)) ?_
                   try go_wp2
                   go_roundg k3
                   case measure => have := HK1.out; have := HJ8.out; have := HK3.out; omega
                   case rel => exact ⟨(y542), (wrap64 (x5_3 + 1)), sq, H', ⟨b81_⟩, ⟨rq HQ27.out⟩, ⟨bel1 GB24.out⟩⟩
                  ·rw [if_neg c22] at H
                   exact absurd H (by simp)
                 ·rw [if_neg c21] at H
                  exact absurd H (by simp)
                ·rw [if_neg c20] at H
                 exact absurd H (by simp)
               ·rw [if_neg c19] at H
                exact absurd H (by simp)
              ·rw [if_neg c18] at H; have c18b0 := decide_eq_false c18; clear c18
               have H' := am H
               clear H
               have p536 : 0 ≤ (x4_1 : Int) := of_decide_eq_true ad
               have q536 : x4_1 < (l0.length : Int) := of_decide_eq_true ad
               obtain ⟨ad536, A536_1, c536_1, e536, hx536_0, hx536_1, hl536_1, hi536_1⟩ := at_T94 HR0.out x4_1 p536 q536
               obtain rfl : ad534 = ad536 := (by injection e536)
               replace hx536_0 := kp HB.out hx536_0; replace hx536_1 := kp HB.out hx536_1; have HR536_1 := am hi536_1; have HC536_1 := am hl536_1; clear hi536_1 hl536_1; replace p536 := eq_true p536; replace q536 := eq_true q536; go_wp2
               go_roundg k3
               case measure => have := HK1.out; have := HJ8.out; have := HK3.out; omega
               case rel => exact ⟨(x3_3), (wrap64 (x4_1 - 1)), sq, H', ⟨b81_⟩, ⟨rq HO_3.out⟩, ⟨bel⟩⟩
             ·rw [if_neg c17] at H
              exact absurd H (by simp)
            ·rw [if_neg c16] at H
             exact absurd H (by simp)
       ·rw [if_neg c8] at H
        exact absurd H (by simp)
      ·rw [if_neg c7] at H
       exact absurd H (by simp)
     ·rw [if_neg c6] at H; have c6b0 := decide_eq_false c6; clear c6; obtain rfl := Option.some.inj H; go_wp2; go_ret
      exact ⟨_, eq_, b66_, bel⟩
  ·rw [if_neg c3] at H
   exact absurd H (by simp)
 ·rw [if_neg c2] at H
  exact absurd H (by simp)

/-! ### spec_l3Small: function 77 -/
def spec_l3Small.f (k : Nat) (l0 : List (S94)) : Option (Bool) := (spec_MachineOk.f k l0).bind fun t543 => (if t543 = true then ((spec_l3Counts.f k l0).bind fun t544 => (if 0 < (t544.length : Int) then (some (decide ((rd t544 0) < 1000000000))) else (none))) else (some false))
set_option maxHeartbeats 8000000 in
set_option maxRecDepth 100000 in
theorem spec_l3Small.calls (k : Nat) (A0 : Option Addr) (c0 : Nat) (l0 : List (S94)) (r : Bool) (w : World) (hr0 : Kd.C k94 w A0 l0.length l0) (hc0 : l0.length ≤ c0) (h : spec_l3Small.f k l0 = some r) :
  Calls Try.prog 77 #[.slice A0 l0.length c0] w fun e w' => e = .returned (.bool r) ∧ Below w.heap.size w w' := by
 have HR0 := am hr0; have HC0 := am hc0; clear hr0 hc0; have HB := am (Below.refl w.heap.size w)
 have H : ((spec_MachineOk.f k l0).bind fun t543 => (if t543 = true then ((spec_l3Counts.f k l0).bind fun t544 => (if 0 < (t544.length : Int) then (some (decide ((rd t544 0) < 1000000000))) else (none))) else (some false))) = some r := h
 clear h; replace H := Option.bind_eq_some_iff.mp H; obtain ⟨t543, A20, H⟩ := H; replace H : (if t543 = true then ((spec_l3Counts.f k l0).bind fun t544 => (if 0 < (t544.length : Int) then (some (decide ((rd t544 0) < 1000000000))) else (none))) else (some false)) = some r := H; have A2 := Aside0.mk A20; clear A20
 by_cases c3 : t543 = true
 ·subst c3
  have H1 : ((spec_l3Counts.f k l0).bind fun t544 => (if 0 < (t544.length : Int) then (some (decide ((rd t544 0) < 1000000000))) else (none))) = some r := b20_
  replace H := H1; clear H1
  replace H := Option.bind_eq_some_iff.mp H; obtain ⟨t544, A40, H⟩ := H; replace H : (if 0 < (t544.length : Int) then (some (decide ((rd t544 0) < 1000000000))) else (none)) = some r := H; have A4 := Aside0.mk A40; clear A40
  by_cases c5 : 0 < (t544.length : Int)
  ·rw [if_pos c5] at H; have c5b0 := decide_eq_true c5
   have c5b1 : decide (0 < t544.length) = true := decide_eq_true (by omega)
   clear c5; obtain rfl := Option.some.inj H; go_enter Try.func77, Try.ntmps77
   go_wp2_with (first | ((with_reducible refine gate_callee (f := 34) rfl ?_); refine goesL_ (some 4) rfl rfl Try.func34 (by kernel_rfl) rfl #[.slice A0 l0.length c0] rfl mq ?_; (with_reducible refine (spec_MachineOk.calls k _ _ l0 true _ ?side1 ?side2 A2.out).mono ?_); (case side1 => repeat (first | exact HR0.out | (with_reducible refine Kd.C_alloc ?_ _) | (with_reducible refine Kd.C_drewN ?_ _) | (with_reducible refine Kd.C_drew ?_))); (case side2 => exact HC0.out); rintro e w6 ⟨rfl, hb⟩; refine ⟨_, rfl, ?_⟩; replace HB := am (below_step bel hb); (try clear hb); (try clear hb2); (try clear hk); (try clear hi)) | (go_at_call 83; (with_reducible refine (spec_l3Counts.calls k _ _ l0 t544 _ ?side1 ?side2 A4.out).mono ?_); (case side1 => exact cq (Kd.C_below HR0.out HB.out)); (case side2 => exact HC0.out); rintro e w7 ⟨v545, rfl, ho0, hb⟩; have HO546 := am (Kd.R_lower ho0 (below_size bel)); replace HB := am (below_step bel hb); (try clear hb); (try clear hb2); (try clear hk); (try clear hi); (try clear ho0); obtain ⟨Ao8, co8, eo8⟩ := Kd.R_slice HO546.out; subst eo8; have p547 : 0 ≤ (0 : Int) := (by omega); have q547 : 0 < (t544.length : Int) := of_decide_eq_true ad; obtain ⟨ad547, e547, hx547_0⟩ := Kd.at_int (Kd.R_reads' HO546.out).2.2 0 p547 q547; cases e547; have qi547 : (0 < t544.length) = True := eq_true (by omega); (try rw [show ((0 : Int)).toNat = 0 from rfl] at hx547_0); (try rw [Addr.add_zero'] at hx547_0); replace p547 := eq_true p547; replace q547 := eq_true q547))
   go_ret
   exact ⟨eq_, bel⟩
  ·rw [if_neg c5] at H
   exact absurd H (by simp)
 ·replace c3 := Bool.eq_false_iff.mpr c3; subst c3
  have H1 : (some false) = some r := b6_
  replace H := H1; clear H1
  obtain rfl := Option.some.inj H; go_enter Try.func77, Try.ntmps77
  go_wp2_with (first | ((with_reducible refine gate_callee (f := 34) rfl ?_); refine goesL_ (some 4) rfl rfl Try.func34 (by kernel_rfl) rfl #[.slice A0 l0.length c0] rfl mq ?_; (with_reducible refine (spec_MachineOk.calls k _ _ l0 false _ ?side1 ?side2 A2.out).mono ?_); (case side1 => repeat (first | exact HR0.out | (with_reducible refine Kd.C_alloc ?_ _) | (with_reducible refine Kd.C_drewN ?_ _) | (with_reducible refine Kd.C_drew ?_))); (case side2 => exact HC0.out); rintro e w9 ⟨rfl, hb⟩; refine ⟨_, rfl, ?_⟩; replace HB := am (below_step bel hb); (try clear hb); (try clear hb2); (try clear hk); (try clear hi)))
  go_ret
  exact ⟨eq_, bel⟩

end Go.Proofs.Ytfpmfaelodfecaa.QFnMachineWord
