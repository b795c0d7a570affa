import Derived.Test.YtfpmfaelodfecaaQFnMachineWordx0
import Derived.Test.YtfpmfaelodfecaaQFnMachineWordx3
import Derived.Test.YtfpmfaelodfecaaVMSh2
namespace Go.Proofs.Ytfpmfaelodfecaa.QFnMachineWord
open Go.RowKit Go.Proofs.YtfpmfaelodfecaaW.PrintWords Go.Proofs.YtfpmfaelodfecaaW.PrintLast Go.Proofs.YtfpmfaelodfecaaW.PrintMore Go.Proofs.Ytfpmfaelodfecaa.Sh
attribute [local go_sem] max2_int min2_int max_two min_two max_three min_three max_four min_four   -- for this text's walks alone
set_option linter.unusedVariables false
set_option linter.unusedSimpArgs false
-- shrunk

/-! ### impl_counts: function 80 -/
mutual
def impl_counts.l0 : Nat → List (S94) → List Int → Int → Option (List Int)
 | 0, _, _, _ => none
 | k + 1, x0, x3, x4 => if x4 ≥ 0 then (if 0 ≤ x4 then (if x4 < (x0.length : Int) then (if (rd_T94 x0 x4).f0 = true then (if x4 < (x3.length : Int) then (impl_counts.j1 k x0 (x3.set (x4 : Int).toNat 1) x4) else (none)) else (impl_counts.j1 k x0 x3 x4)) else (none)) else (none)) else (some x3)
def impl_counts.j1 : Nat → List (S94) → List Int → Int → Option (List Int)
 | 0, _, _, _ => none
 | k + 1, x0, x3, x4 => if 0 ≤ x4 then (if x4 < (x0.length : Int) then (impl_counts.l1 k x0 x3 x4 ((rd_T94 x0 x4).f1) (((rd_T94 x0 x4).f1).length : Int) 0) else (none)) else (none)
def impl_counts.l1 : Nat → List (S94) → List Int → Int → List (S100) → Int → Int → Option (List Int)
 | 0, _, _, _, _, _, _ => none
 | k + 1, x0, x3, x4, x29, x30, x31 => if x31 < x30 then (if 0 ≤ x31 then (if x31 < (x29.length : Int) then (if 0 ≤ x4 then (if x4 < (x3.length : Int) then (if 0 ≤ ((rd_T100 x29 x31).f1) then (if ((rd_T100 x29 x31).f1) < (x3.length : Int) then (impl_counts.l1 k x0 (x3.set (x4 : Int).toNat (mn (wrap64 ((rd x3 x4) + (rd x3 ((rd_T100 x29 x31).f1)))) 1000000000)) x4 x29 x30 (wrap64 (x31 + 1))) else (none)) else (none)) else (none)) else (none)) else (none)) else (none)) else (impl_counts.l0 k x0 x3 (wrap64 (x4 - 1)))
end
def impl_counts.f (k : Nat) (l0 : List (S94)) : Option (List Int) := if 0 ≤ (l0.length : Int) then (if l0.length ≤ 35184372088832 then (impl_counts.l0 k l0 (List.replicate l0.length 0) (wrap64 ((l0.length : Int) - 1))) else (none)) else (none)
def impl_counts.T10 : Bool × List (List Nat × List Nat) := (true, [([], []), ([], []), ([], []), ([], []), ([2, 3], [2, 3]), ([4], [4]), ([], []), ([], []), ([7], [7]), ([6, 8], [6, 8]), ([9], [9]), ([5, 10], [5, 10]), ([11], [11]), ([0, 1, 0, 1, 2, 3, 4, 5, 6, 7, 8, 9, 10, 11, 12], [0, 1]), ([13, 12, 0, 1, 2, 3, 4, 5, 6, 7, 8, 9, 10, 11, 12], [12, 13])])
def impl_counts.B10 : List Nat := [0, 0, 0, 0, 12, 28, 0, 0, 128, 448, 960, 2044, 4092, 8191, 16383]
theorem impl_counts.tab10 : rtab .any (opsOf Try.f80 10) = impl_counts.T10 := by kernel_rfl
theorem impl_counts.bits10 : waitsOk impl_counts.T10.2 impl_counts.B10 = true := by kernel_rfl
set_option maxHeartbeats 8000000 in
set_option maxRecDepth 100000 in
theorem impl_counts.calls (k : Nat) (A0 : Option Addr) (c0 : Nat) (l0 : List (S94)) (r : List Int) (w : World) (hr0 : Kd.C k94 w A0 l0.length l0) (hc0 : l0.length ≤ c0) (h : impl_counts.f k l0 = some r) :
  Calls Try.prog 80 #[.slice A0 l0.length c0] w fun e w' => ∃ v0_ : Value, e = .returned (v0_) ∧ Kd.R (Kd.int .i64) 3 w' w.heap.size (fun _ => True) v0_ r ∧ Below w.heap.size w w' := by
 have hu100 := Try.underlying100; have HR0 := am hr0; have HC0 := am hc0; clear hr0 hc0; have HB := am (Below.refl w.heap.size w)
 have H : (if 0 ≤ (l0.length : Int) then (if l0.length ≤ 35184372088832 then (impl_counts.l0 k l0 (List.replicate l0.length 0) (wrap64 ((l0.length : Int) - 1))) else (none)) else (none)) = some r := h
 clear h
 by_cases c2 : 0 ≤ (l0.length : Int)
 ·rw [if_pos c2] at H; have c2b0 := eq_true c2
  have c2b1 : decide (0 ≤ (l0.length : Int)) = true := decide_eq_true c2
  clear c2
  by_cases c3 : l0.length ≤ 35184372088832
  ·rw [if_pos c3] at H; have c3b0 := eq_true c3
   have c3b1 : decide (l0.length ≤ 35184372088832) = true := decide_eq_true c3
   clear c3; obtain ⟨y120, hy120⟩ : ∃ y_ : List Int, y_ = (List.replicate l0.length 0) := ⟨_, rfl⟩
   replace H : (impl_counts.l0 k l0 y120 (wrap64 ((l0.length : Int) - 1))) = some r := by first | (rw [hy120]; with_reducible exact H) | (have H2_ := (Option.bind_some _ _).symm.trans H; rw [hy120]; with_reducible exact H2_) | (have H2_ := (Option.bind_some _ _).symm.trans H; with_reducible exact H2_) | with_reducible exact H | (rw [hy120]; exact H) | exact H
   have Ny120 := am hy120; clear hy120
   have H' := am H
   clear H; go_enter Try.func80, Try.ntmps80
   go_wp2_with (first | ((with_reducible refine gate_dst (N := 9) rfl ?_); refine Kd.R_make (Kd.int .i64) _ 3 rfl (N := 9) rfl 86 _ _ rfl (l0.length : Int) rfl rfl Try.underlying86 (.int .i64 0) 8 info3 rfl (by decide) (by omega) 0 (ok := fun _ => True) (okp := fun _ => True) rfl (fun _ hk => hk) trivial (of_decide_eq_true ad) (Nat.le_trans (Nat.mul_le_mul_right _ (of_decide_eq_true ad : (l0.length : Int).toNat ≤ 35184372088832)) (by omega)) (Below.refl _ _) (Nat.le_refl _) ?_; intro v121 w4 ho5 hb hg_ hnew_; clear hg_ hnew_; (first | rw [← Ny120.out] at ho5 | (simp only [Int.reduceToNat] at ho5; rw [← Ny120.out] at ho5) | (simp only [Int.toNat_natCast] at ho5; rw [← Ny120.out] at ho5)); have HO122 := am (Kd.R_lower ho5 (below_size bel)); replace HB := am (below_step bel hb); clear hb ho5))
   go_loopg [4] k (fun kq v4 w' => ∃ (x3_1 : List Int) (x4_1 : Int), v4 = .int .i64 x4_1 ∧ Aside0 (impl_counts.l0 kq l0 x3_1 x4_1 = some r) ∧ Aside0 (kq ≤ k) ∧ Aside0 (Kd.R (Kd.int .i64) 3 w' w.heap.size (fun _ => True) v121 x3_1) ∧ Aside0 (Below w.heap.size w w'))
   case atStart => exact ⟨(y120), (wrap64 ((l0.length : Int) - 1)), sq, H', ⟨Nat.le_refl _⟩, ⟨rq HO122.out⟩, ⟨bel⟩⟩
   case round =>
    clear H'; (try clear c2); (try clear c2b0); (try clear c2b1); (try clear p2); (try clear c3); (try clear c3b0); (try clear c3b1); obtain ⟨x3_1, x4_1, rfl, HA, HK1, HO_3, HB⟩ := hrel
    cases gk with
    | zero => exact absurd HA.out (by simp [impl_counts.l0])
    | succ k1 =>
     have H := HA.out; clear HA
     simp only [impl_counts.l0] at H
     by_cases c6 : x4_1 ≥ 0
     ·rw [if_pos c6] at H; have c6b0 := decide_eq_true c6; clear c6
      by_cases c7 : 0 ≤ x4_1
      ·rw [if_pos c7] at H; have c7b0 := decide_eq_true c7; clear c7
       by_cases c8 : x4_1 < (l0.length : Int)
       ·rw [if_pos c8] at H; have c8b0 := decide_eq_true c8; clear c8; have HC9 := am H; clear H
        have p123 : 0 ≤ (x4_1 : Int) := of_decide_eq_true ad
        have q123 : x4_1 < (l0.length : Int) := of_decide_eq_true ad
        obtain ⟨ad123, A123_1, c123_1, e123, hx123_0, hx123_1, hl123_1, hi123_1⟩ := at_T94 HR0.out x4_1 p123 q123
        cases e123
        replace hx123_0 := kp HB.out hx123_0; replace hx123_1 := kp HB.out hx123_1; have HR123_1 := am hi123_1; have HC123_1 := am hl123_1; clear hi123_1 hl123_1; replace p123 := eq_true p123; replace q123 := eq_true q123
        go_upto_if 21 with (fail)
        go_cut [] (fun wc => ∃ (kq : Nat) (x3_8 : List Int), Aside0 (impl_counts.j1 kq l0 x3_8 x4_1 = some r) ∧ Aside0 (kq ≤ k1) ∧ Aside0 (Kd.R (Kd.int .i64) 3 wc w.heap.size (fun _ => True) v121 x3_8) ∧ Aside0 (Below w.heap.size w wc))
        case first =>
         have H := HC9.out; clear HC9; obtain ⟨bq10, hbq10⟩ : ∃ b_ : Bool, b_ = ((rd_T94 l0 x4_1).f0) := ⟨_, rfl⟩
         replace H : (if bq10 = true then (if x4_1 < (x3_1.length : Int) then (impl_counts.j1 k1 l0 (x3_1.set (x4_1 : Int).toNat 1) x4_1) else (none)) else (impl_counts.j1 k1 l0 x3_1 x4_1)) = some r := by rw [← hbq10] at H; exact H
         have Nbq10 := am hbq10; clear hbq10
         (try rw [← Nbq10.out])
         by_cases c11 : bq10 = true
         ·subst c11
          have H1 : (if x4_1 < (x3_1.length : Int) then (impl_counts.j1 k1 l0 (x3_1.set (x4_1 : Int).toNat 1) x4_1) else (none)) = some r := b20_
          replace H := H1; clear H1
          by_cases c12 : x4_1 < (x3_1.length : Int)
          ·rw [if_pos c12] at H; have c12b0 := decide_eq_true c12; clear c12; obtain ⟨y124, hy124⟩ : ∃ y_ : List Int, y_ = (x3_1.set (x4_1 : Int).toNat 1) := ⟨_, rfl⟩
           replace H : (impl_counts.j1 k1 l0 y124 x4_1) = some r := by first | (rw [hy124]; with_reducible exact H) | (have H2_ := (Option.bind_some _ _).symm.trans H; rw [hy124]; with_reducible exact H2_) | (have H2_ := (Option.bind_some _ _).symm.trans H; with_reducible exact H2_) | with_reducible exact H | (rw [hy124]; exact H) | exact H
           have Ny124 := am hy124; clear hy124
           have H' := am H
           clear H
           have p13 : 0 ≤ (x4_1 : Int) := of_decide_eq_true ad
           have q13 : (x4_1 : Int) < ((x3_1.length : Int) : Int) := of_decide_eq_true ad
           obtain ⟨go13, co13, eo13, gb13, gl13, cl13, HG13⟩ := Kd.R_form HO_3.out (by omega)
           (first | cases eo13 | (injection eo13 with ea_ en_ ec_; (first | subst ea_ | (injection ea_ with ea_; subst ea_)); subst ec_; clear en_))
           have GB13 := Aside0.mk gb13; have GG13 := am HG13; clear gb13 gl13 HG13; obtain ⟨hx13_0, hf13_0⟩ := Kd.R_celln 0 HO_3.out (x4_1 : Int) p13 q13; replace p13 := eq_true p13; replace q13 := eq_true q13; have HP14 := Kd.R_putg HO_3.out (x4_1 : Int) 1
           go_wp2_with (first | ((with_reducible refine gate_store (t := 3) (p := 24) rfl ?_); refine store_event (t := 3) (p := 24) (v := ?vo_w15) (w1 := (wr.setCell ⟨go13, (x4_1 : Int).toNat, none⟩ (.int .i64 1))) ?hg ?ho ?hn ?hr ?_; (case ho => rfl); (case hg => rfl); (case hn => rfl); (case hr => first | (go_simp; done) | (go_simp; rfl)); intro w15 hw; have hg : wr.grownBy w15 (some go13) := (by rw [hw]; exact HP14.2); have hp_ : Kd.R (Kd.int .i64) 3 w15 w.heap.size (fun _ => True) (.slice (some ⟨go13, 0, none⟩) x3_1.length co13) y124 := (by rw [hw, Ny124.out]; exact HP14.1); clear HP14; replace HO_3 := am (hp_); replace HB := am ((by rw [hw]; exact below_set (HB.out) GB13.out : Below w.heap.size w w15)); clear hg hw hp_))
           go_meet
           case rel => exact ⟨_, (y124), H', ⟨b24_⟩, ⟨rq HO_3.out⟩, ⟨bel⟩⟩
          ·rw [if_neg c12] at H
           exact absurd H (by simp)
         ·replace c11 := Bool.eq_false_iff.mpr c11; subst c11
          (try rw [← Nbq10.out] at hx123_0)
          (try rw [← Nbq10.out])
          have H1 : (impl_counts.j1 k1 l0 x3_1 x4_1) = some r := b6_
          replace H := H1; clear H1
          have H' := am H
          clear H; go_wp2
          go_meet
          case rel => (try rw [← Nbq10.out]); exact ⟨_, (x3_1), H', ⟨b24_⟩, ⟨rq HO_3.out⟩, ⟨bel⟩⟩
        case rest =>
         clear HC9; (try clear c1); (try clear p1); (try clear q1); (try clear hx1); (try clear hf1); (try clear c2); (try clear c2b0); (try clear c2b1); (try clear p2); (try clear c3); (try clear c3b0); (try clear c3b1); (try clear c6); (try clear c6b0); (try clear p6); (try clear c7); (try clear c7b0); (try clear c8); (try clear c8b0); (try clear q10); (try clear c11); (try clear c12); (try clear c12b0); (try clear p12); (try clear q12); (try clear hx12); (try clear p13); (try clear q13); (try clear hx13); (try clear hf13); (try clear hx123_0); (try clear hx123_1); (try clear hx13_0); (try clear p123); (try clear p13); (try clear p2); (try clear q123); (try clear q13); obtain ⟨kq, x3_8, HA, HJ8, HO_3, HB⟩ := hcut
         cases kq with
         | zero => exact absurd HA.out (by simp [impl_counts.j1])
         | succ kj8 =>
          have H := HA.out; clear HA
          simp only [impl_counts.j1] at H
          by_cases c16 : 0 ≤ x4_1
          ·rw [if_pos c16] at H; have c16b0 := decide_eq_true c16; clear c16
           by_cases c17 : x4_1 < (l0.length : Int)
           ·rw [if_pos c17] at H; have c17b0 := decide_eq_true c17; clear c17
            have H' := am H
            clear H
            have p125 : 0 ≤ (x4_1 : Int) := of_decide_eq_true ad
            have q125 : x4_1 < (l0.length : Int) := of_decide_eq_true ad
            obtain ⟨ad125, A125_1, c125_1, e125, hx125_0, hx125_1, hl125_1, hi125_1⟩ := at_T94 HR0.out x4_1 p125 q125
            obtain rfl : ad123 = ad125 := (by injection e125)
            replace hx125_0 := kp HB.out hx125_0; replace hx125_1 := kp HB.out hx125_1; have HR125_1 := am hi125_1; have HC125_1 := am hl125_1; clear hi125_1 hl125_1; replace p125 := eq_true p125; replace q125 := eq_true q125; go_wp2
            go_loopg [31] kj8 (fun kq v31 w' => ∃ (x3_3 : List Int) (x31_3 : Int), v31 = .int .i64 x31_3 ∧ Aside0 (impl_counts.l1 kq l0 x3_3 x4_1 ((rd_T94 l0 x4_1).f1) (((rd_T94 l0 x4_1).f1).length : Int) x31_3 = some r) ∧ Aside0 (kq ≤ kj8) ∧ Aside0 (Kd.R (Kd.int .i64) 3 w' w.heap.size (fun _ => True) v121 x3_3) ∧ Aside0 (Below w.heap.size w w'))
            case atStart => exact ⟨(x3_8), (0), sq, H', ⟨Nat.le_refl _⟩, ⟨rq HO_3.out⟩, ⟨bel⟩⟩
            case round =>
             clear H'; (try clear c1); (try clear p1); (try clear q1); (try clear hx1); (try clear hf1); (try clear c2); (try clear c2b0); (try clear c2b1); (try clear p2); (try clear c3); (try clear c3b0); (try clear c3b1); (try clear c6); (try clear c6b0); (try clear p6); (try clear c7); (try clear c7b0); (try clear c8); (try clear c8b0); (try clear q10); (try clear c11); (try clear c12); (try clear c12b0); (try clear p12); (try clear q12); (try clear hx12); (try clear p13); (try clear q13); (try clear hx13); (try clear hf13); (try clear c16); (try clear c16b0); (try clear c17); (try clear c17b0); (try clear hx123_0); (try clear hx123_1); (try clear hx125_0); (try clear hx125_1); (try clear hx13_0); (try clear p1); (try clear p12); (try clear p123); (try clear p125); (try clear p13); (try clear p2); (try clear p6); (try clear q1); (try clear q10); (try clear q12); (try clear q123); (try clear q125); (try clear q13); obtain ⟨x3_3, x31_3, rfl, HA, HK3, HO_3, HB⟩ := hrel
             cases gk with
             | zero => exact absurd HA.out (by simp [impl_counts.l1])
             | succ k3 =>
              have H := HA.out; clear HA
              simp only [impl_counts.l1] at H
              by_cases c18 : x31_3 < (((rd_T94 l0 x4_1).f1).length : Int)
              ·rw [if_pos c18] at H; have c18b0 := decide_eq_true c18; clear c18
               by_cases c19 : 0 ≤ x31_3
               ·rw [if_pos c19] at H; have c19b0 := decide_eq_true c19; clear c19
                by_cases c20 : x31_3 < (((rd_T94 l0 x4_1).f1).length : Int)
                ·rw [if_pos c20] at H; have c20b0 := decide_eq_true c20; clear c20
                 by_cases c21 : 0 ≤ x4_1
                 ·rw [if_pos c21] at H; have c21b0 := decide_eq_true c21; clear c21
                  by_cases c22 : x4_1 < (x3_3.length : Int)
                  ·rw [if_pos c22] at H; have c22b0 := decide_eq_true c22; clear c22
                   by_cases c23 : 0 ≤ ((rd_T100 ((rd_T94 l0 x4_1).f1) x31_3).f1)
                   ·rw [if_pos c23] at H; have c23b0 := decide_eq_true c23; clear c23
                    by_cases c24 : ((rd_T100 ((rd_T94 l0 x4_1).f1) x31_3).f1) < (x3_3.length : Int)
                    ·rw [if_pos c24] at H; have c24b0 := decide_eq_true c24; clear c24; obtain ⟨ji25, hji25⟩ : ∃ j_ : Int, (mn (wrap64 ((rd x3_3 x4_1) + (rd x3_3 ((rd_T100 ((rd_T94 l0 x4_1).f1) x31_3).f1)))) 1000000000) = j_ := ⟨_, rfl⟩
                     replace H : (impl_counts.l1 k3 l0 (x3_3.set (x4_1 : Int).toNat (ji25)) x4_1 ((rd_T94 l0 x4_1).f1) (((rd_T94 l0 x4_1).f1).length : Int) (wrap64 (x31_3 + 1))) = some r := by first | (rw [hji25] at H; exact H) | (simp only [hji25] at H ⊢; exact H)
                     have hji25_ : (if 1000000000 < (wrap64 ((rd x3_3 x4_1) + (rd x3_3 ((rd_T100 ((rd_T94 l0 x4_1).f1) x31_3).f1)))) then 1000000000 else (wrap64 ((rd x3_3 x4_1) + (rd x3_3 ((rd_T100 ((rd_T94 l0 x4_1).f1) x31_3).f1))))) = ji25 := hji25
                     obtain ⟨y130, hy130⟩ : ∃ y_ : List Int, y_ = (x3_3.set (x4_1 : Int).toNat (ji25)) := ⟨_, rfl⟩
                     replace H : (impl_counts.l1 k3 l0 y130 x4_1 ((rd_T94 l0 x4_1).f1) (((rd_T94 l0 x4_1).f1).length : Int) (wrap64 (x31_3 + 1))) = some r := by first | (rw [hy130]; with_reducible exact H) | (have H2_ := (Option.bind_some _ _).symm.trans H; rw [hy130]; with_reducible exact H2_) | (have H2_ := (Option.bind_some _ _).symm.trans H; with_reducible exact H2_) | with_reducible exact H | (rw [hy130]; exact H) | exact H
                     have Ny130 := am hy130; clear hy130
                     have H' := am H
                     clear H
                     have p126 : 0 ≤ (x31_3 : Int) := of_decide_eq_true ad
                     have q126 : x31_3 < (((rd_T94 l0 x4_1).f1).length : Int) := of_decide_eq_true ad
                     obtain ⟨ad126, e126, hx126_0, hx126_1⟩ := at_T100 HR125_1.out x31_3 p126 q126
                     cases e126
                     replace hx126_0 := kp HB.out hx126_0; replace hx126_1 := kp HB.out hx126_1; replace p126 := eq_true p126; replace q126 := eq_true q126
                     try go_wp2_with (first | ((with_reducible refine gate_dst (N := 6) rfl ?_); refine bx 6 (cs := #[.int .i64 0, .int .i64 0]) (t := 100) ?_; intro gb127 hg w27 hbox hb; replace HO_3 := am (Kd.R_below (rq HO_3.out) hb); have BK127 := am (hbox); have GW127 := am ((b13_ : w.heap.size ≤ gb127)); have GE127 := am ((b13_ : w.heap.size ≤ gb127)); replace HB := am (below_step bel hb); clear hb hbox hg; have hcz28_0 := bc BK127.out 0; have hcz28_1 := bc BK127.out 1; have hfz28_0 := bf BK127.out 0; have hfz28_1 := bf BK127.out 1))
                     have n0_ : Aside0 (Kd.R (Kd.int .i64) 3 ((w27.setCell ⟨gb127, 0, none⟩ (.int .i64 ((rd_T100 ((rd_T94 l0 x4_1).f1) x31_3).f0))).setCell ⟨gb127, 1, none⟩ (.int .i64 ((rd_T100 ((rd_T94 l0 x4_1).f1) x31_3).f1))) w.heap.size (fun _ => True) v121 x3_3) := ⟨rq (Kd.R_mono (Kd.R_far (p := ⟨gb127, 1, none⟩) (Kd.R_far (p := ⟨gb127, 0, none⟩) (Kd.R_types HO_3.out BK127.out (by decide)) (fun _ hk => hk.2) (.int .i64 ((rd_T100 ((rd_T94 l0 x4_1).f1) x31_3).f0))) (fun _ hk => hk.2) (.int .i64 ((rd_T100 ((rd_T94 l0 x4_1).f1) x31_3).f1))) (fun _ hk => trivial))⟩
                     have n1_ : Aside0 (((w27.setCell ⟨gb127, 0, none⟩ (.int .i64 ((rd_T100 ((rd_T94 l0 x4_1).f1) x31_3).f0))).setCell ⟨gb127, 1, none⟩ (.int .i64 ((rd_T100 ((rd_T94 l0 x4_1).f1) x31_3).f1))).heap[gb127]? = some (.cells #[.int .i64 ((rd_T100 ((rd_T94 l0 x4_1).f1) x31_3).f0), .int .i64 ((rd_T100 ((rd_T94 l0 x4_1).f1) x31_3).f1)] 100 (0, 0))) := ⟨by (with_reducible repeat (first | refine blk_drewN ?_ _ | refine blk_drew ?_ | refine blk_alloc ?_ _)); refine blk_put (cs := #[.int .i64 ((rd_T100 ((rd_T94 l0 x4_1).f1) x31_3).f0), .int .i64 0]) ?_ 1 _ rfl; (with_reducible repeat (first | refine blk_drewN ?_ _ | refine blk_drew ?_ | refine blk_alloc ?_ _)); refine blk_put (cs := #[.int .i64 0, .int .i64 0]) ?_ 0 _ rfl; (with_reducible repeat (first | refine blk_drewN ?_ _ | refine blk_drew ?_ | refine blk_alloc ?_ _)); exact BK127.out⟩
                     have n2_ : Aside0 (Below w.heap.size w ((w27.setCell ⟨gb127, 0, none⟩ (.int .i64 ((rd_T100 ((rd_T94 l0 x4_1).f1) x31_3).f0))).setCell ⟨gb127, 1, none⟩ (.int .i64 ((rd_T100 ((rd_T94 l0 x4_1).f1) x31_3).f1)))) := ⟨bel1 GE127.out⟩
                     (try clear HO_3)
                     (try clear BK127)
                     (try clear HB)
                     generalize ((w27.setCell ⟨gb127, 0, none⟩ (.int .i64 ((rd_T100 ((rd_T94 l0 x4_1).f1) x31_3).f0))).setCell ⟨gb127, 1, none⟩ (.int .i64 ((rd_T100 ((rd_T94 l0 x4_1).f1) x31_3).f1))) = w29 at n0_ n1_ n2_ ⊢
                     have HO_3 := n0_; have BK127 := n1_; have HB := n2_; clear n0_ n1_ n2_; replace HO_3 := am (Kd.R_drew HO_3.out); replace BK127 := am (blk_drew BK127.out); replace HB := am (below_drew1 HB.out); obtain ⟨Ao31, co31, eo31⟩ := Kd.R_slice HO_3.out
                     (first | subst eo31 | (injection eo31 with f1_ f2_ f3_; have f4_ := f1_.symm; have f5_ := f3_.symm; clear f1_ f2_ f3_; subst f4_; subst f5_))
                     have p128 : 0 ≤ (x4_1 : Int) := of_decide_eq_true ad
                     have q128 : x4_1 < (x3_3.length : Int) := of_decide_eq_true ad
                     obtain ⟨ad128, e128, hx128_0⟩ := Kd.at_int (Kd.R_reads' HO_3.out).2.2 x4_1 p128 q128
                     cases e128
                     replace p128 := eq_true p128; replace q128 := eq_true q128
                     have p129 : 0 ≤ (((rd_T100 ((rd_T94 l0 x4_1).f1) x31_3).f1) : Int) := of_decide_eq_true ad
                     have q129 : ((rd_T100 ((rd_T94 l0 x4_1).f1) x31_3).f1) < (x3_3.length : Int) := of_decide_eq_true ad
                     obtain ⟨ad129, e129, hx129_0⟩ := Kd.at_int (Kd.R_reads' HO_3.out).2.2 ((rd_T100 ((rd_T94 l0 x4_1).f1) x31_3).f1) p129 q129
                     obtain rfl : ad128 = ad129 := (by injection e129)
                     replace p129 := eq_true p129; replace q129 := eq_true q129
                     have p26 : 0 ≤ (x4_1 : Int) := of_decide_eq_true ad
                     have q26 : (x4_1 : Int) < ((x3_3.length : Int) : Int) := of_decide_eq_true ad
                     obtain ⟨go26, co26, eo26, gb26, gl26, cl26, HG26⟩ := Kd.R_form HO_3.out (by omega)
                     (first | cases eo26 | (injection eo26 with ea_ en_ ec_; (first | subst ea_ | (injection ea_ with ea_; subst ea_)); subst ec_; clear en_))
                     have GB26 := Aside0.mk gb26; have GG26 := am HG26; clear gb26 gl26 HG26
                     (first | simp only [add_plain] at hx128_0 | skip)
                     (first | simp only [add_plain] at hx129_0 | skip)
                     obtain ⟨hx26_0, hf26_0⟩ := Kd.R_celln 0 HO_3.out (x4_1 : Int) p26 q26; replace p26 := eq_true p26; replace q26 := eq_true q26; have HP32 := Kd.R_putn HO_3.out (x4_1 : Int) ji25; rw [← Ny130.out] at HP32; have HQ32 := am HP32; clear HP32
                     refine start_ (n := 15) (S := fun w' => w'.cell? ⟨gb127, 0, none⟩ = some (.int .i64 ((rd_T100 ((rd_T94 l0 x4_1).f1) x31_3).f0)) ∧ w'.cell? ⟨gb127, 1, none⟩ = some (.int .i64 ((rd_T100 ((rd_T94 l0 x4_1).f1) x31_3).f1)) ∧ w'.cell? ⟨go26, (x4_1).toNat, none⟩ = some (.int .i64 (rd x3_3 x4_1)) ∧ w'.cell? ⟨go26, (((rd_T100 ((rd_T94 l0 x4_1).f1) x31_3).f1)).toNat, none⟩ = some (.int .i64 (rd x3_3 ((rd_T100 ((rd_T94 l0 x4_1).f1) x31_3).f1)))) (ds := [14]) #[false, false, false, false, false, false, false, false, false, false, false, false, false, false, false] (by kernel_rfl) rfl rfl ⟨(blk_cell BK127.out 0).trans rfl, (blk_cell BK127.out 1).trans rfl, hx128_0, hx129_0⟩ (fun hHeld => ?_); refine with_tabW impl_counts.tab10 impl_counts.bits10 (fun HT_ HW_ => ?_)
                     generalize w29.drew = w30 at HO_3 BK127 HB GG26 HQ32 hf26_0 hx128_0 hx129_0 hx26_0 hHeld ⊢
                     refine pu 0 35 ?_
                     refine pu 1 36 ?_
                     refine pu 2 37 ?_
                     refine pu 3 38 ?_
                     refine pu 4 39 ?_
                     refine pu 6 41 ?_
                     refine pu 7 42 ?_
                     refine tk4 5 40 hHeld ?_
                     refine tk4 8 43 hHeld ?_
                     refine pu 9 44 ?_
                     refine tk4 10 45 hHeld ?_
                     refine pu 11 46 ?_
                     refine pu 12 47 ?_
                     refine pu 13 48 ?_
                     refine last_ (i := 14) (N := none) #[true, true, true, true, true, true, true, true, true, true, true, true, true, true, true] rfl rfl (one_of HT_.out (by kernel_rfl)) (by decide) (fun K hK => ?_)
                     refine skip_ (w1 := ?_) (by rfl) rfl ?_ ?_
                     rotate_left
                     ·go_simp
                      rfl
                     refine hK.out _ _ ?_
                     clear hK K
                     refine done_ (done_of HT_.out (by kernel_rfl)) ?_
                     try go_wp2
                     go_roundg k3
                     case measure => have := HK1.out; have := HJ8.out; have := HK3.out; omega
                     case rel => exact ⟨(y130), (wrap64 (x31_3 + 1)), sq, H', ⟨b81_⟩, ⟨rq HQ32.out⟩, ⟨bel2 GB26.out GE127.out⟩⟩
                    ·rw [if_neg c24] at H
                     exact absurd H (by simp)
                   ·rw [if_neg c23] at H
                    exact absurd H (by simp)
                  ·rw [if_neg c22] at H
                   exact absurd H (by simp)
                 ·rw [if_neg c21] at H
                  exact absurd H (by simp)
                ·rw [if_neg c20] at H
                 exact absurd H (by simp)
               ·rw [if_neg c19] at H
                exact absurd H (by simp)
              ·rw [if_neg c18] at H; have c18b0 := decide_eq_false c18; clear c18
               have H' := am H
               clear H; go_wp2
               go_roundg k3
               case measure => have := HK1.out; have := HJ8.out; have := HK3.out; omega
               case rel => exact ⟨(x3_3), (wrap64 (x4_1 - 1)), sq, H', ⟨b81_⟩, ⟨rq HO_3.out⟩, ⟨bel⟩⟩
           ·rw [if_neg c17] at H
            exact absurd H (by simp)
          ·rw [if_neg c16] at H
           exact absurd H (by simp)
       ·rw [if_neg c8] at H
        exact absurd H (by simp)
      ·rw [if_neg c7] at H
       exact absurd H (by simp)
     ·rw [if_neg c6] at H; have c6b0 := decide_eq_false c6; clear c6; obtain rfl := Option.some.inj H; go_wp2; go_ret
      exact ⟨_, eq_, b66_, bel⟩
  ·rw [if_neg c3] at H
   exact absurd H (by simp)
 ·rw [if_neg c2] at H
  exact absurd H (by simp)

/-! ### impl_MachineCount: function 35 -/
def impl_MachineCount.f (k : Nat) (l0 : List (S94)) : Option (Int) := (impl_MachineOk.f k l0).bind fun t131 => (if t131 = true then ((impl_counts.f k l0).bind fun t132 => (if 0 < (t132.length : Int) then (some (rd t132 0)) else (none))) else (some 0))
set_option maxHeartbeats 8000000 in
set_option maxRecDepth 100000 in
theorem impl_MachineCount.calls (k : Nat) (A0 : Option Addr) (c0 : Nat) (l0 : List (S94)) (r : Int) (w : World) (hr0 : Kd.C k94 w A0 l0.length l0) (hc0 : l0.length ≤ c0) (h : impl_MachineCount.f k l0 = some r) :
  Calls Try.prog 35 #[.slice A0 l0.length c0] w fun e w' => e = .returned (.int .i64 r) ∧ Below w.heap.size w w' := by
 have HR0 := am hr0; have HC0 := am hc0; clear hr0 hc0; have HB := am (Below.refl w.heap.size w)
 have H : ((impl_MachineOk.f k l0).bind fun t131 => (if t131 = true then ((impl_counts.f k l0).bind fun t132 => (if 0 < (t132.length : Int) then (some (rd t132 0)) else (none))) else (some 0))) = some r := h
 clear h; replace H := Option.bind_eq_some_iff.mp H; obtain ⟨t131, A20, H⟩ := H; replace H : (if t131 = true then ((impl_counts.f k l0).bind fun t132 => (if 0 < (t132.length : Int) then (some (rd t132 0)) else (none))) else (some 0)) = some r := H; have A2 := Aside0.mk A20; clear A20
 by_cases c3 : t131 = true
 ·subst c3
  have H1 : ((impl_counts.f k l0).bind fun t132 => (if 0 < (t132.length : Int) then (some (rd t132 0)) else (none))) = some r := b20_
  replace H := H1; clear H1
  replace H := Option.bind_eq_some_iff.mp H; obtain ⟨t132, A40, H⟩ := H; replace H : (if 0 < (t132.length : Int) then (some (rd t132 0)) else (none)) = some r := H; have A4 := Aside0.mk A40; clear A40
  by_cases c5 : 0 < (t132.length : Int)
  ·rw [if_pos c5] at H; have c5b0 := decide_eq_true c5
   have c5b1 : decide (0 < t132.length) = true := decide_eq_true (by omega)
   clear c5; obtain rfl := Option.some.inj H; go_enter Try.func35, Try.ntmps35
   go_wp2_with (first | ((with_reducible refine gate_callee (f := 44) rfl ?_); refine goesL_ (some 4) rfl rfl Try.func44 (by kernel_rfl) rfl #[.slice A0 l0.length c0] rfl mq ?_; (with_reducible refine (impl_MachineOk.calls k _ _ l0 true _ ?side1 ?side2 A2.out).mono ?_); (case side1 => repeat (first | exact HR0.out | (with_reducible refine Kd.C_alloc ?_ _) | (with_reducible refine Kd.C_drewN ?_ _) | (with_reducible refine Kd.C_drew ?_))); (case side2 => exact HC0.out); rintro e w6 ⟨rfl, hb⟩; refine ⟨_, rfl, ?_⟩; replace HB := am (below_step bel hb); (try clear hb); (try clear hb2); (try clear hk); (try clear hi)) | ((with_reducible refine gate_callee (f := 80) rfl ?_); refine goesL_ (some 7) rfl rfl Try.func80 (by kernel_rfl) rfl #[.slice A0 l0.length c0] rfl mq ?_; (with_reducible refine (impl_counts.calls k _ _ l0 t132 _ ?side1 ?side2 A4.out).mono ?_); (case side1 => exact cq (Kd.C_below HR0.out HB.out)); (case side2 => exact HC0.out); rintro e w7 ⟨v133, rfl, ho0, hb⟩; refine ⟨_, rfl, ?_⟩; have HO134 := am (Kd.R_lower ho0 (below_size bel)); replace HB := am (below_step bel hb); (try clear hb); (try clear hb2); (try clear hk); (try clear hi); (try clear ho0); obtain ⟨Ao8, co8, eo8⟩ := Kd.R_slice HO134.out; subst eo8; have p135 : 0 ≤ (0 : Int) := (by omega); have q135 : 0 < (t132.length : Int) := of_decide_eq_true ad; obtain ⟨ad135, e135, hx135_0⟩ := Kd.at_int (Kd.R_reads' HO134.out).2.2 0 p135 q135; cases e135; have qi135 : (0 < t132.length) = True := eq_true (by omega); (try rw [show ((0 : Int)).toNat = 0 from rfl] at hx135_0); (try rw [Addr.add_zero'] at hx135_0); replace p135 := eq_true p135; replace q135 := eq_true q135))
   go_ret
   exact ⟨eq_, bel⟩
  ·rw [if_neg c5] at H
   exact absurd H (by simp)
 ·replace c3 := Bool.eq_false_iff.mpr c3; subst c3
  have H1 : (some 0) = some r := b6_
  replace H := H1; clear H1
  obtain rfl := Option.some.inj H; go_enter Try.func35, Try.ntmps35
  go_wp2_with (first | ((with_reducible refine gate_callee (f := 44) rfl ?_); refine goesL_ (some 4) rfl rfl Try.func44 (by kernel_rfl) rfl #[.slice A0 l0.length c0] rfl mq ?_; (with_reducible refine (impl_MachineOk.calls k _ _ l0 false _ ?side1 ?side2 A2.out).mono ?_); (case side1 => repeat (first | exact HR0.out | (with_reducible refine Kd.C_alloc ?_ _) | (with_reducible refine Kd.C_drewN ?_ _) | (with_reducible refine Kd.C_drew ?_))); (case side2 => exact HC0.out); rintro e w9 ⟨rfl, hb⟩; refine ⟨_, rfl, ?_⟩; replace HB := am (below_step bel hb); (try clear hb); (try clear hb2); (try clear hk); (try clear hi)))
  go_ret
  exact ⟨eq_, bel⟩

end Go.Proofs.Ytfpmfaelodfecaa.QFnMachineWord
