import Derived.Test.YtfpmfaelodfecaaQFnMachineWordx0
import Derived.Test.YtfpmfaelodfecaaVMSh2
namespace Go.Proofs.Ytfpmfaelodfecaa.QFnMachineWord
open Go.RowKit Go.Proofs.YtfpmfaelodfecaaW.PrintWords Go.Proofs.YtfpmfaelodfecaaW.PrintLast Go.Proofs.YtfpmfaelodfecaaW.PrintMore Go.Proofs.Ytfpmfaelodfecaa.Sh
attribute [local go_sem] max2_int min2_int max_two min_two max_three min_three max_four min_four   -- for this text's walks alone
set_option linter.unusedVariables false
set_option linter.unusedSimpArgs false
-- shrunk

/-! ### spec_l3Deep: function 79 -/
mutual
def spec_l3Deep.l0 : Nat → List (S94) → List Int → Int → Option (Int)
 | 0, _, _, _ => none
 | k + 1, x0, x3, x4 => if x4 ≥ 0 then (spec_l3Deep.l1 k x0 x3 x4 0) else (if 0 < (x3.length : Int) then (some (rd x3 0)) else (none))
def spec_l3Deep.l1 : Nat → List (S94) → List Int → Int → Int → Option (Int)
 | 0, _, _, _, _ => none
 | k + 1, x0, x3, x4, x5 => if 0 ≤ x4 then (if x4 < (x0.length : Int) then (if x5 < (((rd_T94 x0 x4).f1).length : Int) then (if 0 ≤ x5 then (if 0 ≤ ((rd_T100 ((rd_T94 x0 x4).f1) x5).f1) then (if ((rd_T100 ((rd_T94 x0 x4).f1) x5).f1) < (x3.length : Int) then (if x4 < (x3.length : Int) then (if (wrap64 ((rd x3 ((rd_T100 ((rd_T94 x0 x4).f1) x5).f1)) + 1)) > (rd x3 x4) then (spec_l3Deep.l1 k x0 (x3.set (x4 : Int).toNat (wrap64 ((rd x3 ((rd_T100 ((rd_T94 x0 x4).f1) x5).f1)) + 1))) x4 (wrap64 (x5 + 1))) else (spec_l3Deep.l1 k x0 x3 x4 (wrap64 (x5 + 1)))) else (none)) else (none)) else (none)) else (none)) else (spec_l3Deep.l0 k x0 x3 (wrap64 (x4 - 1)))) else (none)) else (none)
end
def spec_l3Deep.f (k : Nat) (l0 : List (S94)) : Option (Int) := if 0 ≤ (l0.length : Int) then (if l0.length ≤ 35184372088832 then (spec_l3Deep.l0 k l0 (List.replicate l0.length 0) (wrap64 ((l0.length : Int) - 1))) else (none)) else (none)
set_option maxHeartbeats 8000000 in
set_option maxRecDepth 100000 in
theorem spec_l3Deep.calls (k : Nat) (A0 : Option Addr) (c0 : Nat) (l0 : List (S94)) (r : Int) (w : World) (hr0 : Kd.C k94 w A0 l0.length l0) (hc0 : l0.length ≤ c0) (h : spec_l3Deep.f k l0 = some r) :
  Calls Try.prog 79 #[.slice A0 l0.length c0] w fun e w' => e = .returned (.int .i64 r) ∧ Below w.heap.size w w' := by
 have HR0 := am hr0; have HC0 := am hc0; clear hr0 hc0; have HB := am (Below.refl w.heap.size w)
 have H : (if 0 ≤ (l0.length : Int) then (if l0.length ≤ 35184372088832 then (spec_l3Deep.l0 k l0 (List.replicate l0.length 0) (wrap64 ((l0.length : Int) - 1))) else (none)) else (none)) = some r := h
 clear h
 by_cases c2 : 0 ≤ (l0.length : Int)
 ·rw [if_pos c2] at H; have c2b0 := eq_true c2
  have c2b1 : decide (0 ≤ (l0.length : Int)) = true := decide_eq_true c2
  clear c2
  by_cases c3 : l0.length ≤ 35184372088832
  ·rw [if_pos c3] at H; have c3b0 := eq_true c3
   have c3b1 : decide (l0.length ≤ 35184372088832) = true := decide_eq_true c3
   clear c3; obtain ⟨y509, hy509⟩ : ∃ y_ : List Int, y_ = (List.replicate l0.length 0) := ⟨_, rfl⟩
   replace H : (spec_l3Deep.l0 k l0 y509 (wrap64 ((l0.length : Int) - 1))) = some r := by first | (rw [hy509]; with_reducible exact H) | (have H2_ := (Option.bind_some _ _).symm.trans H; rw [hy509]; with_reducible exact H2_) | (have H2_ := (Option.bind_some _ _).symm.trans H; with_reducible exact H2_) | with_reducible exact H | (rw [hy509]; exact H) | exact H
   have Ny509 := am hy509; clear hy509
   have H' := am H
   clear H; go_enter Try.func79, Try.ntmps79
   go_wp2_with (first | ((with_reducible refine gate_dst (N := 9) rfl ?_); refine Kd.R_make (Kd.int .i64) _ 3 rfl (N := 9) rfl 86 _ _ rfl (l0.length : Int) rfl rfl Try.underlying86 (.int .i64 0) 8 info3 rfl (by decide) (by omega) 0 (ok := fun _ => True) (okp := fun _ => True) rfl (fun _ hk => hk) trivial (of_decide_eq_true ad) (Nat.le_trans (Nat.mul_le_mul_right _ (of_decide_eq_true ad : (l0.length : Int).toNat ≤ 35184372088832)) (by omega)) (Below.refl _ _) (Nat.le_refl _) ?_; intro v510 w4 ho5 hb hg_ hnew_; clear hg_ hnew_; (first | rw [← Ny509.out] at ho5 | (simp only [Int.reduceToNat] at ho5; rw [← Ny509.out] at ho5) | (simp only [Int.toNat_natCast] at ho5; rw [← Ny509.out] at ho5)); have HO511 := am (Kd.R_lower ho5 (below_size bel)); replace HB := am (below_step bel hb); clear hb ho5))
   go_loopg [4] k (fun kq v4 w' => ∃ (x3_1 : List Int) (x4_1 : Int), v4 = .int .i64 x4_1 ∧ Aside0 (spec_l3Deep.l0 kq l0 x3_1 x4_1 = some r) ∧ Aside0 (kq ≤ k) ∧ Aside0 (Kd.R (Kd.int .i64) 3 w' w.heap.size (fun _ => True) v510 x3_1) ∧ Aside0 (Below w.heap.size w w'))
   case atStart => exact ⟨(y509), (wrap64 ((l0.length : Int) - 1)), sq, H', ⟨Nat.le_refl _⟩, ⟨rq HO511.out⟩, ⟨bel⟩⟩
   case round =>
    clear H'; (try clear c2); (try clear c2b0); (try clear c2b1); (try clear p2); (try clear c3); (try clear c3b0); (try clear c3b1); obtain ⟨x3_1, x4_1, rfl, HA, HK1, HO_3, HB⟩ := hrel
    cases gk with
    | zero => exact absurd HA.out (by simp [spec_l3Deep.l0])
    | succ k1 =>
     have H := HA.out; clear HA
     simp only [spec_l3Deep.l0] at H
     by_cases c6 : x4_1 ≥ 0
     ·rw [if_pos c6] at H; have c6b0 := decide_eq_true c6; clear c6
      have H' := am H
      clear H; go_wp2
      go_loopg [5] k1 (fun kq v5 w' => ∃ (x3_2 : List Int) (x5_2 : Int), v5 = .int .i64 x5_2 ∧ Aside0 (spec_l3Deep.l1 kq l0 x3_2 x4_1 x5_2 = some r) ∧ Aside0 (kq ≤ k1) ∧ Aside0 (Kd.R (Kd.int .i64) 3 w' w.heap.size (fun _ => True) v510 x3_2) ∧ Aside0 (Below w.heap.size w w'))
      case atStart => exact ⟨(x3_1), (0), sq, H', ⟨Nat.le_refl _⟩, ⟨rq HO_3.out⟩, ⟨bel⟩⟩
      case round =>
       clear H'; (try clear c2); (try clear c2b0); (try clear c2b1); (try clear p2); (try clear c3); (try clear c3b0); (try clear c3b1); (try clear c6); (try clear c6b0); (try clear p6); (try clear p2); obtain ⟨x3_2, x5_2, rfl, HA, HK2, HO_3, HB⟩ := hrel
       cases gk with
       | zero => exact absurd HA.out (by simp [spec_l3Deep.l1])
       | succ k2 =>
        have H := HA.out; clear HA
        simp only [spec_l3Deep.l1] at H
        by_cases c7 : 0 ≤ x4_1
        ·rw [if_pos c7] at H; have c7b0 := decide_eq_true c7; clear c7
         by_cases c8 : x4_1 < (l0.length : Int)
         ·rw [if_pos c8] at H; have c8b0 := decide_eq_true c8; clear c8
          by_cases c9 : x5_2 < (((rd_T94 l0 x4_1).f1).length : Int)
          ·rw [if_pos c9] at H; have c9b0 := decide_eq_true c9; clear c9
           by_cases c10 : 0 ≤ x5_2
           ·rw [if_pos c10] at H; have c10b0 := decide_eq_true c10; clear c10
            by_cases c11 : 0 ≤ ((rd_T100 ((rd_T94 l0 x4_1).f1) x5_2).f1)
            ·rw [if_pos c11] at H; have c11b0 := decide_eq_true c11; clear c11
             by_cases c12 : ((rd_T100 ((rd_T94 l0 x4_1).f1) x5_2).f1) < (x3_2.length : Int)
             ·rw [if_pos c12] at H; have c12b0 := decide_eq_true c12; clear c12
              by_cases c13 : x4_1 < (x3_2.length : Int)
              ·rw [if_pos c13] at H; have c13b0 := decide_eq_true c13; clear c13
               by_cases c14 : (wrap64 ((rd x3_2 ((rd_T100 ((rd_T94 l0 x4_1).f1) x5_2).f1)) + 1)) > (rd x3_2 x4_1)
               ·rw [if_pos c14] at H; have c14b0 := decide_eq_true c14; clear c14; obtain ⟨y518, hy518⟩ : ∃ y_ : List Int, y_ = (x3_2.set (x4_1 : Int).toNat (wrap64 ((rd x3_2 ((rd_T100 ((rd_T94 l0 x4_1).f1) x5_2).f1)) + 1))) := ⟨_, rfl⟩
                replace H : (spec_l3Deep.l1 k2 l0 y518 x4_1 (wrap64 (x5_2 + 1))) = some r := by first | (rw [hy518]; with_reducible exact H) | (have H2_ := (Option.bind_some _ _).symm.trans H; rw [hy518]; with_reducible exact H2_) | (have H2_ := (Option.bind_some _ _).symm.trans H; with_reducible exact H2_) | with_reducible exact H | (rw [hy518]; exact H) | exact H
                have Ny518 := am hy518; clear hy518
                have H' := am H
                clear H
                have p513 : 0 ≤ (x4_1 : Int) := of_decide_eq_true ad
                have q513 : x4_1 < (l0.length : Int) := of_decide_eq_true ad
                obtain ⟨ad513, A513_1, c513_1, e513, hx513_0, hx513_1, hl513_1, hi513_1⟩ := at_T94 HR0.out x4_1 p513 q513
                cases e513
                replace hx513_0 := kp HB.out hx513_0; replace hx513_1 := kp HB.out hx513_1; have HR513_1 := am hi513_1; have HC513_1 := am hl513_1; clear hi513_1 hl513_1; replace p513 := eq_true p513; replace q513 := eq_true q513
                have p514 : 0 ≤ (x4_1 : Int) := of_decide_eq_true ad
                have q514 : x4_1 < (l0.length : Int) := of_decide_eq_true ad
                obtain ⟨ad514, A514_1, c514_1, e514, hx514_0, hx514_1, hl514_1, hi514_1⟩ := at_T94 HR0.out x4_1 p514 q514
                obtain rfl : ad513 = ad514 := (by injection e514)
                replace hx514_0 := kp HB.out hx514_0; replace hx514_1 := kp HB.out hx514_1; have HR514_1 := am hi514_1; have HC514_1 := am hl514_1; clear hi514_1 hl514_1; replace p514 := eq_true p514; replace q514 := eq_true q514; have ea_ := Option.some.inj (hx513_1.symm.trans hx514_1)
                injection ea_ with ea_ en_ ec_
                subst ea_; subst ec_; clear en_
                have p515 : 0 ≤ (x5_2 : Int) := of_decide_eq_true ad
                have q515 : x5_2 < (((rd_T94 l0 x4_1).f1).length : Int) := of_decide_eq_true ad
                obtain ⟨ad515, e515, hx515_0, hx515_1⟩ := at_T100 HR514_1.out x5_2 p515 q515
                cases e515
                replace hx515_0 := kp HB.out hx515_0; replace hx515_1 := kp HB.out hx515_1; replace p515 := eq_true p515; replace q515 := eq_true q515; obtain ⟨Ao16, co16, eo16⟩ := Kd.R_slice HO_3.out; subst eo16
                have p516 : 0 ≤ (((rd_T100 ((rd_T94 l0 x4_1).f1) x5_2).f1) : Int) := of_decide_eq_true ad
                have q516 : ((rd_T100 ((rd_T94 l0 x4_1).f1) x5_2).f1) < (x3_2.length : Int) := of_decide_eq_true ad
                obtain ⟨ad516, e516, hx516_0⟩ := Kd.at_int (Kd.R_reads' HO_3.out).2.2 ((rd_T100 ((rd_T94 l0 x4_1).f1) x5_2).f1) p516 q516
                cases e516
                replace p516 := eq_true p516; replace q516 := eq_true q516
                have p517 : 0 ≤ (x4_1 : Int) := of_decide_eq_true ad
                have q517 : x4_1 < (x3_2.length : Int) := of_decide_eq_true ad
                obtain ⟨ad517, e517, hx517_0⟩ := Kd.at_int (Kd.R_reads' HO_3.out).2.2 x4_1 p517 q517
                obtain rfl : ad516 = ad517 := (by injection e517)
                replace p517 := eq_true p517; replace q517 := eq_true q517
                have p15 : 0 ≤ (x4_1 : Int) := of_decide_eq_true ad
                have q15 : (x4_1 : Int) < ((x3_2.length : Int) : Int) := of_decide_eq_true ad
                obtain ⟨go15, co15, eo15, gb15, gl15, cl15, HG15⟩ := Kd.R_form HO_3.out (by omega)
                (first | cases eo15 | (injection eo15 with ea_ en_ ec_; (first | subst ea_ | (injection ea_ with ea_; subst ea_)); subst ec_; clear en_))
                have GB15 := Aside0.mk gb15; have GG15 := am HG15; clear gb15 gl15 HG15
                (first | simp only [add_plain] at hx516_0 | skip)
                (first | simp only [add_plain] at hx517_0 | skip)
                obtain ⟨hx15_0, hf15_0⟩ := Kd.R_celln 0 HO_3.out (x4_1 : Int) p15 q15; replace p15 := eq_true p15; replace q15 := eq_true q15; have HP17 := Kd.R_putg HO_3.out (x4_1 : Int) (wrap64 ((rd x3_2 ((rd_T100 ((rd_T94 l0 x4_1).f1) x5_2).f1)) + 1))
                go_wp2_with (first | ((with_reducible refine gate_store (t := 3) (p := 49) rfl ?_); refine store_event (t := 3) (p := 49) (v := ?vo_w18) (w1 := (wr.setCell ⟨go15, (x4_1 : Int).toNat, none⟩ (.int .i64 (wrap64 ((rd x3_2 ((rd_T100 ((rd_T94 l0 x4_1).f1) x5_2).f1)) + 1))))) ?hg ?ho ?hn ?hr ?_; (case ho => rfl); (case hg => rfl); (case hn => rfl); (case hr => first | (go_simp; done) | (go_simp; rfl)); intro w18 hw; have hg : wr.grownBy w18 (some go15) := (by rw [hw]; exact HP17.2); have hp_ : Kd.R (Kd.int .i64) 3 w18 w.heap.size (fun _ => True) (.slice (some ⟨go15, 0, none⟩) x3_2.length co16) y518 := (by rw [hw, Ny518.out]; exact HP17.1); clear HP17; replace HO_3 := am (hp_); replace HB := am ((by rw [hw]; exact below_set (HB.out) GB15.out : Below w.heap.size w w18)); clear hg hw hp_))
                go_roundg k2
                case measure => have := HK1.out; have := HK2.out; omega
                case rel => exact ⟨(y518), (wrap64 (x5_2 + 1)), sq, H', ⟨b27_⟩, ⟨rq HO_3.out⟩, ⟨bel⟩⟩
               ·rw [if_neg c14] at H; have c14b0 := decide_eq_false c14; clear c14
                have H' := am H
                clear H
                have p513 : 0 ≤ (x4_1 : Int) := of_decide_eq_true ad
                have q513 : x4_1 < (l0.length : Int) := of_decide_eq_true ad
                obtain ⟨ad513, A513_1, c513_1, e513, hx513_0, hx513_1, hl513_1, hi513_1⟩ := at_T94 HR0.out x4_1 p513 q513
                cases e513
                replace hx513_0 := kp HB.out hx513_0; replace hx513_1 := kp HB.out hx513_1; have HR513_1 := am hi513_1; have HC513_1 := am hl513_1; clear hi513_1 hl513_1; replace p513 := eq_true p513; replace q513 := eq_true q513
                have p514 : 0 ≤ (x4_1 : Int) := of_decide_eq_true ad
                have q514 : x4_1 < (l0.length : Int) := of_decide_eq_true ad
                obtain ⟨ad514, A514_1, c514_1, e514, hx514_0, hx514_1, hl514_1, hi514_1⟩ := at_T94 HR0.out x4_1 p514 q514
                obtain rfl : ad513 = ad514 := (by injection e514)
                replace hx514_0 := kp HB.out hx514_0; replace hx514_1 := kp HB.out hx514_1; have HR514_1 := am hi514_1; have HC514_1 := am hl514_1; clear hi514_1 hl514_1; replace p514 := eq_true p514; replace q514 := eq_true q514; have ea_ := Option.some.inj (hx513_1.symm.trans hx514_1)
                injection ea_ with ea_ en_ ec_
                subst ea_; subst ec_; clear en_
                have p515 : 0 ≤ (x5_2 : Int) := of_decide_eq_true ad
                have q515 : x5_2 < (((rd_T94 l0 x4_1).f1).length : Int) := of_decide_eq_true ad
                obtain ⟨ad515, e515, hx515_0, hx515_1⟩ := at_T100 HR514_1.out x5_2 p515 q515
                cases e515
                replace hx515_0 := kp HB.out hx515_0; replace hx515_1 := kp HB.out hx515_1; replace p515 := eq_true p515; replace q515 := eq_true q515; obtain ⟨Ao19, co19, eo19⟩ := Kd.R_slice HO_3.out; subst eo19
                have p516 : 0 ≤ (((rd_T100 ((rd_T94 l0 x4_1).f1) x5_2).f1) : Int) := of_decide_eq_true ad
                have q516 : ((rd_T100 ((rd_T94 l0 x4_1).f1) x5_2).f1) < (x3_2.length : Int) := of_decide_eq_true ad
                obtain ⟨ad516, e516, hx516_0⟩ := Kd.at_int (Kd.R_reads' HO_3.out).2.2 ((rd_T100 ((rd_T94 l0 x4_1).f1) x5_2).f1) p516 q516
                cases e516
                replace p516 := eq_true p516; replace q516 := eq_true q516
                have p517 : 0 ≤ (x4_1 : Int) := of_decide_eq_true ad
                have q517 : x4_1 < (x3_2.length : Int) := of_decide_eq_true ad
                obtain ⟨ad517, e517, hx517_0⟩ := Kd.at_int (Kd.R_reads' HO_3.out).2.2 x4_1 p517 q517
                obtain rfl : ad516 = ad517 := (by injection e517)
                replace p517 := eq_true p517; replace q517 := eq_true q517; go_wp2
                go_roundg k2
                case measure => have := HK1.out; have := HK2.out; omega
                case rel => exact ⟨(x3_2), (wrap64 (x5_2 + 1)), sq, H', ⟨b27_⟩, ⟨rq HO_3.out⟩, ⟨bel⟩⟩
              ·rw [if_neg c13] at H
               exact absurd H (by simp)
             ·rw [if_neg c12] at H
              exact absurd H (by simp)
            ·rw [if_neg c11] at H
             exact absurd H (by simp)
           ·rw [if_neg c10] at H
            exact absurd H (by simp)
          ·rw [if_neg c9] at H; have c9b0 := decide_eq_false c9; clear c9
           have H' := am H
           clear H
           have p513 : 0 ≤ (x4_1 : Int) := of_decide_eq_true ad
           have q513 : x4_1 < (l0.length : Int) := of_decide_eq_true ad
           obtain ⟨ad513, A513_1, c513_1, e513, hx513_0, hx513_1, hl513_1, hi513_1⟩ := at_T94 HR0.out x4_1 p513 q513
           cases e513
           replace hx513_0 := kp HB.out hx513_0; replace hx513_1 := kp HB.out hx513_1; have HR513_1 := am hi513_1; have HC513_1 := am hl513_1; clear hi513_1 hl513_1; replace p513 := eq_true p513; replace q513 := eq_true q513; go_wp2
           go_roundg k2
           case measure => have := HK1.out; have := HK2.out; omega
           case rel => exact ⟨(x3_2), (wrap64 (x4_1 - 1)), sq, H', ⟨b27_⟩, ⟨rq HO_3.out⟩, ⟨bel⟩⟩
         ·rw [if_neg c8] at H
          exact absurd H (by simp)
        ·rw [if_neg c7] at H
         exact absurd H (by simp)
     ·rw [if_neg c6] at H; have c6b0 := decide_eq_false c6; clear c6
      by_cases c20 : 0 < (x3_1.length : Int)
      ·rw [if_pos c20] at H; have c20b0 := decide_eq_true c20
       have c20b1 : decide (0 < x3_1.length) = true := decide_eq_true (by omega)
       clear c20; obtain rfl := Option.some.inj H; obtain ⟨Ao21, co21, eo21⟩ := Kd.R_slice HO_3.out; subst eo21
       have p512 : 0 ≤ (0 : Int) := (by omega)
       have q512 : 0 < (x3_1.length : Int) := of_decide_eq_true ad
       obtain ⟨ad512, e512, hx512_0⟩ := Kd.at_int (Kd.R_reads' HO_3.out).2.2 0 p512 q512
       cases e512
       have qi512 : (0 < x3_1.length) = True := eq_true (by omega)
       (try rw [show ((0 : Int)).toNat = 0 from rfl] at hx512_0)
       (try rw [Addr.add_zero'] at hx512_0)
       replace p512 := eq_true p512; replace q512 := eq_true q512; go_wp2; go_ret
       exact ⟨eq_, bel⟩
      ·rw [if_neg c20] at H
       exact absurd H (by simp)
  ·rw [if_neg c3] at H
   exact absurd H (by simp)
 ·rw [if_neg c2] at H
  exact absurd H (by simp)

end Go.Proofs.Ytfpmfaelodfecaa.QFnMachineWord
