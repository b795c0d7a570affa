import Derived.Test.YtfpmfaelodfecaaQFnMachineKnowsx0
import Derived.Test.YtfpmfaelodfecaaQFnMachineKnowsx5
import Derived.Test.YtfpmfaelodfecaaVMSh2
namespace Go.Proofs.Ytfpmfaelodfecaa.QFnMachineKnows
open Go.RowKit Go.Proofs.YtfpmfaelodfecaaW.PrintWords Go.Proofs.YtfpmfaelodfecaaW.PrintLast Go.Proofs.YtfpmfaelodfecaaW.PrintMore Go.Proofs.Ytfpmfaelodfecaa.Sh
attribute [local go_sem] max2_int min2_int max_two min_two max_three min_three max_four min_four   -- for this text's walks alone
set_option linter.unusedVariables false
set_option linter.unusedSimpArgs false
-- shrunk

/-! ### impl_counts: function 80 -/
mutual
def impl_counts.l0 : Nat → List (S94) → List Int → Int → Option (List Int)
 | 0, _, _, _ => none
 | k + 1, x0, x3, x4 => if x4 ≥ 0 then (if 0 ≤ x4 then (if x4 < (x0.length : Int) then (if (rd_T94 x0 x4).f0 = true then (if x4 < (x3.length : Int) then (impl_counts.j1 k x0 (x3.set (x4 : Int).toNat 1) x4) else (none)) else (impl_counts.j1 k x0 x3 x4)) else (none)) else (none)) else (some x3)
def impl_counts.j1 : Nat → List (S94) → List Int → Int → Option (List Int)
 | 0, _, _, _ => none
 | k + 1, x0, x3, x4 => if 0 ≤ x4 then (if x4 < (x0.length : Int) then (impl_counts.l1 k x0 x3 x4 ((rd_T94 x0 x4).f1) (((rd_T94 x0 x4).f1).length : Int) 0) else (none)) else (none)
def impl_counts.l1 : Nat → List (S94) → List Int → Int → List (S100) → Int → Int → Option (List Int)
 | 0, _, _, _, _, _, _ => none
 | k + 1, x0, x3, x4, x29, x30, x31 => if x31 < x30 then (if 0 ≤ x31 then (if x31 < (x29.length : Int) then (if 0 ≤ x4 then (if x4 < (x3.length : Int) then (if 0 ≤ ((rd_T100 x29 x31).f1) then (if ((rd_T100 x29 x31).f1) < (x3.length : Int) then (impl_counts.l1 k x0 (x3.set (x4 : Int).toNat (mn (wrap64 ((rd x3 x4) + (rd x3 ((rd_T100 x29 x31).f1)))) 1000000000)) x4 x29 x30 (wrap64 (x31 + 1))) else (none)) else (none)) else (none)) else (none)) else (none)) else (none)) else (impl_counts.l0 k x0 x3 (wrap64 (x4 - 1)))
end
def impl_counts.f (k : Nat) (l0 : List (S94)) : Option (List Int) := if 0 ≤ (l0.length : Int) then (if l0.length ≤ 35184372088832 then (impl_counts.l0 k l0 (List.replicate l0.length 0) (wrap64 ((l0.length : Int) - 1))) else (none)) else (none)
def impl_counts.T10 : Bool × List (List Nat × List Nat) := (true, [([], []), ([], []), ([], []), ([], []), ([2, 3], [2, 3]), ([4], [4]), ([], []), ([], []), ([7], [7]), ([6, 8], [6, 8]), ([9], [9]), ([5, 10], [5, 10]), ([11], [11]), ([0, 1, 0, 1, 2, 3, 4, 5, 6, 7, 8, 9, 10, 11, 12], [0, 1]), ([13, 12, 0, 1, 2, 3, 4, 5, 6, 7, 8, 9, 10, 11, 12], [12, 13])])
def impl_counts.B10 : List Nat := [0, 0, 0, 0, 12, 28, 0, 0, 128, 448, 960, 2044, 4092, 8191, 16383]
theorem impl_counts.tab10 : rtab .any (opsOf Try.f80 10) = impl_counts.T10 := by kernel_rfl
theorem impl_counts.bits10 : waitsOk impl_counts.T10.2 impl_counts.B10 = true := by kernel_rfl
set_option maxHeartbeats 8000000 in
set_option maxRecDepth 100000 in
theorem impl_counts.calls (k : Nat) (A0 : Option Addr) (c0 : Nat) (l0 : List (S94)) (r : List Int) (w : World) (hr0 : Kd.C k94 w A0 l0.length l0) (hc0 : l0.length ≤ c0) (h : impl_counts.f k l0 = some r) :
  Calls Try.prog 80 #[.slice A0 l0.length c0] w fun e w' => ∃ v0_ : Value, e = .returned (v0_) ∧ Kd.R (Kd.int .i64) 3 w' w.heap.size (fun _ => True) v0_ r ∧ Below w.heap.size w w' := by
 have hu100 := Try.underlying100; have HR0 := am hr0; have HC0 := am hc0; clear hr0 hc0; have HB := am (Below.refl w.heap.size w)
 have H : (if 0 ≤ (l0.length : Int) then (if l0.length ≤ 35184372088832 then (impl_counts.l0 k l0 (List.replicate l0.length 0) (wrap64 ((l0.length : Int) - 1))) else (none)) else (none)) = some r := h
 clear h
 by_cases c2 : 0 ≤ (l0.length : Int)
 ·rw [if_pos c2] at H; have c2b0 := eq_true c2
  have c2b1 : decide (0 ≤ (l0.length : Int)) = true := decide_eq_true c2
  clear c2
  by_cases c3 : l0.length ≤ 35184372088832
  ·rw [if_pos c3] at H; have c3b0 := eq_true c3
   have c3b1 : decide (l0.length ≤ 35184372088832) = true := decide_eq_true c3
   clear c3; obtain ⟨y142, hy142⟩ : ∃ y_ : List Int, y_ = (List.replicate l0.length 0) := ⟨_, rfl⟩
   replace H : (impl_counts.l0 k l0 y142 (wrap64 ((l0.length : Int) - 1))) = some r := by first | (rw [hy142]; with_reducible exact H) | (have H2_ := (Option.bind_some _ _).symm.trans H; rw [hy142]; with_reducible exact H2_) | (have H2_ := (Option.bind_some _ _).symm.trans H; with_reducible exact H2_) | with_reducible exact H | (rw [hy142]; exact H) | exact H
   have Ny142 := am hy142; clear hy142
   have H' := am H
   clear H; go_enter Try.func80, Try.ntmps80
   go_wp2_with (first | ((with_reducible refine gate_dst (N := 9) rfl ?_); refine Kd.R_make (Kd.int .i64) _ 3 rfl (N := 9) rfl 86 _ _ rfl (l0.length : Int) rfl rfl Try.underlying86 (.int .i64 0) 8 info3 rfl (by decide) (by omega) 0 (ok := fun _ => True) (okp := fun _ => True) rfl (fun _ hk => hk) trivial (of_decide_eq_true ad) (Nat.le_trans (Nat.mul_le_mul_right _ (of_decide_eq_true ad : (l0.length : Int).toNat ≤ 35184372088832)) (by omega)) (Below.refl _ _) (Nat.le_refl _) ?_; intro v143 w4 ho5 hb hg_ hnew_; clear hg_ hnew_; (first | rw [← Ny142.out] at ho5 | (simp only [Int.reduceToNat] at ho5; rw [← Ny142.out] at ho5) | (simp only [Int.toNat_natCast] at ho5; rw [← Ny142.out] at ho5)); have HO144 := am (Kd.R_lower ho5 (below_size bel)); replace HB := am (below_step bel hb); clear hb ho5))
   go_loopg [4] k (fun kq v4 w' => ∃ (x3_1 : List Int) (x4_1 : Int), v4 = .int .i64 x4_1 ∧ Aside0 (impl_counts.l0 kq l0 x3_1 x4_1 = some r) ∧ Aside0 (kq ≤ k) ∧ Aside0 (Kd.R (Kd.int .i64) 3 w' w.heap.size (fun _ => True) v143 x3_1) ∧ Aside0 (Below w.heap.size w w'))
   case atStart => exact ⟨(y142), (wrap64 ((l0.length : Int) - 1)), sq, H', ⟨Nat.le_refl _⟩, ⟨rq HO144.out⟩, ⟨bel⟩⟩
   case round =>
    clear H'; (try clear c2); (try clear c2b0); (try clear c2b1); (try clear p2); (try clear c3); (try clear c3b0); (try clear c3b1); obtain ⟨x3_1, x4_1, rfl, HA, HK1, HO_3, HB⟩ := hrel
    cases gk with
    | zero => exact absurd HA.out (by simp [impl_counts.l0])
    | succ k1 =>
     have H := HA.out; clear HA
     simp only [impl_counts.l0] at H
     by_cases c6 : x4_1 ≥ 0
     ·rw [if_pos c6] at H; have c6b0 := decide_eq_true c6; clear c6
      by_cases c7 : 0 ≤ x4_1
      ·rw [if_pos c7] at H; have c7b0 := decide_eq_true c7; clear c7
       by_cases c8 : x4_1 < (l0.length : Int)
       ·rw [if_pos c8] at H; have c8b0 := decide_eq_true c8; clear c8; have HC9 := am H; clear H
        have p145 : 0 ≤ (x4_1 : Int) := of_decide_eq_true ad
        have q145 : x4_1 < (l0.length : Int) := of_decide_eq_true ad
        obtain ⟨ad145, A145_1, c145_1, e145, hx145_0, hx145_1, hl145_1, hi145_1⟩ := at_T94 HR0.out x4_1 p145 q145
        cases e145
        replace hx145_0 := kp HB.out hx145_0; replace hx145_1 := kp HB.out hx145_1; have HR145_1 := am hi145_1; have HC145_1 := am hl145_1; clear hi145_1 hl145_1; replace p145 := eq_true p145; replace q145 := eq_true q145
        go_upto_if 21 with (fail)
        go_cut [] (fun wc => ∃ (kq : Nat) (x3_8 : List Int), Aside0 (impl_counts.j1 kq l0 x3_8 x4_1 = some r) ∧ Aside0 (kq ≤ k1) ∧ Aside0 (Kd.R (Kd.int .i64) 3 wc w.heap.size (fun _ => True) v143 x3_8) ∧ Aside0 (Below w.heap.size w wc))
        case first =>
         have H := HC9.out; clear HC9; obtain ⟨bq10, hbq10⟩ : ∃ b_ : Bool, b_ = ((rd_T94 l0 x4_1).f0) := ⟨_, rfl⟩
         replace H : (if bq10 = true then (if x4_1 < (x3_1.length : Int) then (impl_counts.j1 k1 l0 (x3_1.set (x4_1 : Int).toNat 1) x4_1) else (none)) else (impl_counts.j1 k1 l0 x3_1 x4_1)) = some r := by rw [← hbq10] at H; exact H
         have Nbq10 := am hbq10; clear hbq10
         (try rw [← Nbq10.out])
         by_cases c11 : bq10 = true
         ·subst c11
          have H1 : (if x4_1 < (x3_1.length : Int) then (impl_counts.j1 k1 l0 (x3_1.set (x4_1 : Int).toNat 1) x4_1) else (none)) = some r := b21_
          replace H := H1; clear H1
          by_cases c12 : x4_1 < (x3_1.length : Int)
          ·rw [if_pos c12] at H; have c12b0 := decide_eq_true c12; clear c12; obtain ⟨y146, hy146⟩ : ∃ y_ : List Int, y_ = (x3_1.set (x4_1 : Int).toNat 1) := ⟨_, rfl⟩
           replace H : (impl_counts.j1 k1 l0 y146 x4_1) = some r := by first | (rw [hy146]; with_reducible exact H) | (have H2_ := (Option.bind_some _ _).symm.trans H; rw [hy146]; with_reducible exact H2_) | (have H2_ := (Option.bind_some _ _).symm.trans H; with_reducible exact H2_) | with_reducible exact H | (rw [hy146]; exact H) | exact H
           have Ny146 := am hy146; clear hy146
           have H' := am H
           clear H
           have p13 : 0 ≤ (x4_1 : Int) := of_decide_eq_true ad
           have q13 : (x4_1 : Int) < ((x3_1.length : Int) : Int) := of_decide_eq_true ad
           obtain ⟨go13, co13, eo13, gb13, gl13, cl13, HG13⟩ := Kd.R_form HO_3.out (by omega)
           (first | cases eo13 | (injection eo13 with ea_ en_ ec_; (first | subst ea_ | (injection ea_ with ea_; subst ea_)); subst ec_; clear en_))
           have GB13 := Aside0.mk gb13; have GG13 := am HG13; clear gb13 gl13 HG13; obtain ⟨hx13_0, hf13_0⟩ := Kd.R_celln 0 HO_3.out (x4_1 : Int) p13 q13; replace p13 := eq_true p13; replace q13 := eq_true q13; have HP14 := Kd.R_putg HO_3.out (x4_1 : Int) 1
           go_wp2_with (first | ((with_reducible refine gate_store (t := 3) (p := 24) rfl ?_); refine store_event (t := 3) (p := 24) (v := ?vo_w15) (w1 := (wr.setCell ⟨go13, (x4_1 : Int).toNat, none⟩ (.int .i64 1))) ?hg ?ho ?hn ?hr ?_; (case ho => rfl); (case hg => rfl); (case hn => rfl); (case hr => first | (go_simp; done) | (go_simp; rfl)); intro w15 hw; have hg : wr.grownBy w15 (some go13) := (by rw [hw]; exact HP14.2); have hp_ : Kd.R (Kd.int .i64) 3 w15 w.heap.size (fun _ => True) (.slice (some ⟨go13, 0, none⟩) x3_1.length co13) y146 := (by rw [hw, Ny146.out]; exact HP14.1); clear HP14; replace HO_3 := am (hp_); replace HB := am ((by rw [hw]; exact below_set (HB.out) GB13.out : Below w.heap.size w w15)); clear hg hw hp_))
           go_meet
           case rel => exact ⟨_, (y146), H', ⟨b27_⟩, ⟨rq HO_3.out⟩, ⟨bel⟩⟩
          ·rw [if_neg c12] at H
           exact absurd H (by simp)
         ·replace c11 := Bool.eq_false_iff.mpr c11; subst c11
          (try rw [← Nbq10.out] at hx145_0)
          (try rw [← Nbq10.out])
          have H1 : (impl_counts.j1 k1 l0 x3_1 x4_1) = some r := b9_
          replace H := H1; clear H1
          have H' := am H
          clear H; go_wp2
          go_meet
          case rel => (try rw [← Nbq10.out]); exact ⟨_, (x3_1), H', ⟨b27_⟩, ⟨rq HO_3.out⟩, ⟨bel⟩⟩
        case rest =>
         clear HC9; (try clear c1); (try clear p1); (try clear q1); (try clear hx1); (try clear hf1); (try clear c2); (try clear c2b0); (try clear c2b1); (try clear p2); (try clear c3); (try clear c3b0); (try clear c3b1); (try clear c6); (try clear c6b0); (try clear p6); (try clear c7); (try clear c7b0); (try clear c8); (try clear c8b0); (try clear q10); (try clear c11); (try clear c12); (try clear c12b0); (try clear p13); (try clear q13); (try clear hx13); (try clear hf13); (try clear c14); (try clear p14); (try clear q14); (try clear hx14); (try clear hx13_0); (try clear hx145_0); (try clear hx145_1); (try clear p13); (try clear p145); (try clear p2); (try clear q13); (try clear q145); obtain ⟨kq, x3_8, HA, HJ8, HO_3, HB⟩ := hcut
         cases kq with
         | zero => exact absurd HA.out (by simp [impl_counts.j1])
         | succ kj8 =>
          have H := HA.out; clear HA
          simp only [impl_counts.j1] at H
          by_cases c16 : 0 ≤ x4_1
          ·rw [if_pos c16] at H; have c16b0 := decide_eq_true c16; clear c16
           by_cases c17 : x4_1 < (l0.length : Int)
           ·rw [if_pos c17] at H; have c17b0 := decide_eq_true c17; clear c17
            have H' := am H
            clear H
            have p147 : 0 ≤ (x4_1 : Int) := of_decide_eq_true ad
            have q147 : x4_1 < (l0.length : Int) := of_decide_eq_true ad
            obtain ⟨ad147, A147_1, c147_1, e147, hx147_0, hx147_1, hl147_1, hi147_1⟩ := at_T94 HR0.out x4_1 p147 q147
            obtain rfl : ad145 = ad147 := (by injection e147)
            replace hx147_0 := kp HB.out hx147_0; replace hx147_1 := kp HB.out hx147_1; have HR147_1 := am hi147_1; have HC147_1 := am hl147_1; clear hi147_1 hl147_1; replace p147 := eq_true p147; replace q147 := eq_true q147; go_wp2
            go_loopg [31] kj8 (fun kq v31 w' => ∃ (x3_3 : List Int) (x31_3 : Int), v31 = .int .i64 x31_3 ∧ Aside0 (impl_counts.l1 kq l0 x3_3 x4_1 ((rd_T94 l0 x4_1).f1) (((rd_T94 l0 x4_1).f1).length : Int) x31_3 = some r) ∧ Aside0 (kq ≤ kj8) ∧ Aside0 (Kd.R (Kd.int .i64) 3 w' w.heap.size (fun _ => True) v143 x3_3) ∧ Aside0 (Below w.heap.size w w'))
            case atStart => exact ⟨(x3_8), (0), sq, H', ⟨Nat.le_refl _⟩, ⟨rq HO_3.out⟩, ⟨bel⟩⟩
            case round =>
             clear H'; (try clear c1); (try clear p1); (try clear q1); (try clear hx1); (try clear hf1); (try clear c2); (try clear c2b0); (try clear c2b1); (try clear p2); (try clear c3); (try clear c3b0); (try clear c3b1); (try clear c6); (try clear c6b0); (try clear p6); (try clear c7); (try clear c7b0); (try clear c8); (try clear c8b0); (try clear q10); (try clear c11); (try clear c12); (try clear c12b0); (try clear p13); (try clear q13); (try clear hx13); (try clear hf13); (try clear c14); (try clear p14); (try clear q14); (try clear hx14); (try clear c16); (try clear c16b0); (try clear c17); (try clear c17b0); (try clear hx13_0); (try clear hx145_0); (try clear hx145_1); (try clear hx147_0); (try clear hx147_1); (try clear p1); (try clear p13); (try clear p14); (try clear p145); (try clear p147); (try clear p2); (try clear p6); (try clear q1); (try clear q10); (try clear q13); (try clear q14); (try clear q145); (try clear q147); obtain ⟨x3_3, x31_3, rfl, HA, HK3, HO_3, HB⟩ := hrel
             cases gk with
             | zero => exact absurd HA.out (by simp [impl_counts.l1])
             | succ k3 =>
              have H := HA.out; clear HA
              simp only [impl_counts.l1] at H
              by_cases c18 : x31_3 < (((rd_T94 l0 x4_1).f1).length : Int)
              ·rw [if_pos c18] at H; have c18b0 := decide_eq_true c18; clear c18
               by_cases c19 : 0 ≤ x31_3
               ·rw [if_pos c19] at H; have c19b0 := decide_eq_true c19; clear c19
                by_cases c20 : x31_3 < (((rd_T94 l0 x4_1).f1).length : Int)
                ·rw [if_pos c20] at H; have c20b0 := decide_eq_true c20; clear c20
                 by_cases c21 : 0 ≤ x4_1
                 ·rw [if_pos c21] at H; have c21b0 := decide_eq_true c21; clear c21
                  by_cases c22 : x4_1 < (x3_3.length : Int)
                  ·rw [if_pos c22] at H; have c22b0 := decide_eq_true c22; clear c22
                   by_cases c23 : 0 ≤ ((rd_T100 ((rd_T94 l0 x4_1).f1) x31_3).f1)
                   ·rw [if_pos c23] at H; have c23b0 := decide_eq_true c23; clear c23
                    by_cases c24 : ((rd_T100 ((rd_T94 l0 x4_1).f1) x31_3).f1) < (x3_3.length : Int)
                    ·rw [if_pos c24] at H; have c24b0 := decide_eq_true c24; clear c24; obtain ⟨ji25, hji25⟩ : ∃ j_ : Int, (mn (wrap64 ((rd x3_3 x4_1) + (rd x3_3 ((rd_T100 ((rd_T94 l0 x4_1).f1) x31_3).f1)))) 1000000000) = j_ := ⟨_, rfl⟩
                     replace H : (impl_counts.l1 k3 l0 (x3_3.set (x4_1 : Int).toNat (ji25)) x4_1 ((rd_T94 l0 x4_1).f1) (((rd_T94 l0 x4_1).f1).length : Int) (wrap64 (x31_3 + 1))) = some r := by first | (rw [hji25] at H; exact H) | (simp only [hji25] at H ⊢; exact H)
                     have hji25_ : (if 1000000000 < (wrap64 ((rd x3_3 x4_1) + (rd x3_3 ((rd_T100 ((rd_T94 l0 x4_1).f1) x31_3).f1)))) then 1000000000 else (wrap64 ((rd x3_3 x4_1) + (rd x3_3 ((rd_T100 ((rd_T94 l0 x4_1).f1) x31_3).f1))))) = ji25 := hji25
                     obtain ⟨y152, hy152⟩ : ∃ y_ : List Int, y_ = (x3_3.set (x4_1 : Int).toNat (ji25)) := ⟨_, rfl⟩
                     replace H : (impl_counts.l1 k3 l0 y152 x4_1 ((rd_T94 l0 x4_1).f1) (((rd_T94 l0 x4_1).f1).length : Int) (wrap64 (x31_3 + 1))) = some r := by first | (rw [hy152]; with_reducible exact H) | (have H2_ := (Option.bind_some _ _).symm.trans H; rw [hy152]; with_reducible exact H2_) | (have H2_ := (Option.bind_some _ _).symm.trans H; with_reducible exact H2_) | with_reducible exact H | (rw [hy152]; exact H) | exact H
                     have Ny152 := am hy152; clear hy152
                     have H' := am H
                     clear H
                     have p148 : 0 ≤ (x31_3 : Int) := of_decide_eq_true ad
                     have q148 : x31_3 < (((rd_T94 l0 x4_1).f1).length : Int) := of_decide_eq_true ad
                     obtain ⟨ad148, e148, hx148_0, hx148_1⟩ := at_T100 HR147_1.out x31_3 p148 q148
                     cases e148
                     replace hx148_0 := kp HB.out hx148_0; replace hx148_1 := kp HB.out hx148_1; replace p148 := eq_true p148; replace q148 := eq_true q148
                     try go_wp2_with (first | ((with_reducible refine gate_dst (N := 6) rfl ?_); refine bx 6 (cs := #[.int .i64 0, .int .i64 0]) (t := 100) ?_; intro gb149 hg w27 hbox hb; replace HO_3 := am (Kd.R_below (rq HO_3.out) hb); have BK149 := am (hbox); have GW149 := am ((b15_ : w.heap.size ≤ gb149)); have GE149 := am ((b15_ : w.heap.size ≤ gb149)); replace HB := am (below_step bel hb); clear hb hbox hg; have hcz28_0 := bc BK149.out 0; have hcz28_1 := bc BK149.out 1; have hfz28_0 := bf BK149.out 0; have hfz28_1 := bf BK149.out 1))
                     have n0_ : Aside0 (Kd.R (Kd.int .i64) 3 ((w27.setCell ⟨gb149, 0, none⟩ (.int .i64 ((rd_T100 ((rd_T94 l0 x4_1).f1) x31_3).f0))).setCell ⟨gb149, 1, none⟩ (.int .i64 ((rd_T100 ((rd_T94 l0 x4_1).f1) x31_3).f1))) w.heap.size (fun _ => True) v143 x3_3) := ⟨rq (Kd.R_mono (Kd.R_far (p := ⟨gb149, 1, none⟩) (Kd.R_far (p := ⟨gb149, 0, none⟩) (Kd.R_types HO_3.out BK149.out (by decide)) (fun _ hk => hk.2) (.int .i64 ((rd_T100 ((rd_T94 l0 x4_1).f1) x31_3).f0))) (fun _ hk => hk.2) (.int .i64 ((rd_T100 ((rd_T94 l0 x4_1).f1) x31_3).f1))) (fun _ hk => trivial))⟩
                     have n1_ : Aside0 (((w27.setCell ⟨gb149, 0, none⟩ (.int .i64 ((rd_T100 ((rd_T94 l0 x4_1).f1) x31_3).f0))).setCell ⟨gb149, 1, none⟩ (.int .i64 ((rd_T100 ((rd_T94 l0 x4_1).f1) x31_3).f1))).heap[gb149]? = some (.cells #[.int .i64 ((rd_T100 ((rd_T94 l0 x4_1).f1) x31_3).f0), .int .i64 ((rd_T100 ((rd_T94 l0 x4_1).f1) x31_3).f1)] 100 (0, 0))) := ⟨by (with_reducible repeat (first | refine blk_drewN ?_ _ | refine blk_drew ?_ | refine blk_alloc ?_ _)); refine blk_put (cs := #[.int .i64 ((rd_T100 ((rd_T94 l0 x4_1).f1) x31_3).f0), .int .i64 0]) ?_ 1 _ rfl; (with_reducible repeat (first | refine blk_drewN ?_ _ | refine blk_drew ?_ | refine blk_alloc ?_ _)); refine blk_put (cs := #[.int .i64 0, .int .i64 0]) ?_ 0 _ rfl; (with_reducible repeat (first | refine blk_drewN ?_ _ | refine blk_drew ?_ | refine blk_alloc ?_ _)); exact BK149.out⟩
                     have n2_ : Aside0 (Below w.heap.size w ((w27.setCell ⟨gb149, 0, none⟩ (.int .i64 ((rd_T100 ((rd_T94 l0 x4_1).f1) x31_3).f0))).setCell ⟨gb149, 1, none⟩ (.int .i64 ((rd_T100 ((rd_T94 l0 x4_1).f1) x31_3).f1)))) := ⟨bel1 GE149.out⟩
                     (try clear HO_3)
                     (try clear BK149)
                     (try clear HB)
                     generalize ((w27.setCell ⟨gb149, 0, none⟩ (.int .i64 ((rd_T100 ((rd_T94 l0 x4_1).f1) x31_3).f0))).setCell ⟨gb149, 1, none⟩ (.int .i64 ((rd_T100 ((rd_T94 l0 x4_1).f1) x31_3).f1))) = w29 at n0_ n1_ n2_ ⊢
                     have HO_3 := n0_; have BK149 := n1_; have HB := n2_; clear n0_ n1_ n2_; replace HO_3 := am (Kd.R_drew HO_3.out); replace BK149 := am (blk_drew BK149.out); replace HB := am (below_drew1 HB.out); obtain ⟨Ao31, co31, eo31⟩ := Kd.R_slice HO_3.out
                     (first | subst eo31 | (injection eo31 with f1_ f2_ f3_; have f4_ := f1_.symm; have f5_ := f3_.symm; clear f1_ f2_ f3_; subst f4_; subst f5_))
                     have p150 : 0 ≤ (x4_1 : Int) := of_decide_eq_true ad
                     have q150 : x4_1 < (x3_3.length : Int) := of_decide_eq_true ad
                     obtain ⟨ad150, e150, hx150_0⟩ := Kd.at_int (Kd.R_reads' HO_3.out).2.2 x4_1 p150 q150
                     cases e150
                     replace p150 := eq_true p150; replace q150 := eq_true q150
                     have p151 : 0 ≤ (((rd_T100 ((rd_T94 l0 x4_1).f1) x31_3).f1) : Int) := of_decide_eq_true ad
                     have q151 : ((rd_T100 ((rd_T94 l0 x4_1).f1) x31_3).f1) < (x3_3.length : Int) := of_decide_eq_true ad
                     obtain ⟨ad151, e151, hx151_0⟩ := Kd.at_int (Kd.R_reads' HO_3.out).2.2 ((rd_T100 ((rd_T94 l0 x4_1).f1) x31_3).f1) p151 q151
                     obtain rfl : ad150 = ad151 := (by injection e151)
                     replace p151 := eq_true p151; replace q151 := eq_true q151
                     have p26 : 0 ≤ (x4_1 : Int) := of_decide_eq_true ad
                     have q26 : (x4_1 : Int) < ((x3_3.length : Int) : Int) := of_decide_eq_true ad
                     obtain ⟨go26, co26, eo26, gb26, gl26, cl26, HG26⟩ := Kd.R_form HO_3.out (by omega)
                     (first | cases eo26 | (injection eo26 with ea_ en_ ec_; (first | subst ea_ | (injection ea_ with ea_; subst ea_)); subst ec_; clear en_))
                     have GB26 := Aside0.mk gb26; have GG26 := am HG26; clear gb26 gl26 HG26
                     (first | simp only [add_plain] at hx150_0 | skip)
                     (first | simp only [add_plain] at hx151_0 | skip)
                     obtain ⟨hx26_0, hf26_0⟩ := Kd.R_celln 0 HO_3.out (x4_1 : Int) p26 q26; replace p26 := eq_true p26; replace q26 := eq_true q26; have HP32 := Kd.R_putn HO_3.out (x4_1 : Int) ji25; rw [← Ny152.out] at HP32; have HQ32 := am HP32; clear HP32
                     refine start_ (n := 15) (S := fun w' => w'.cell? ⟨gb149, 0, none⟩ = some (.int .i64 ((rd_T100 ((rd_T94 l0 x4_1).f1) x31_3).f0)) ∧ w'.cell? ⟨gb149, 1, none⟩ = some (.int .i64 ((rd_T100 ((rd_T94 l0 x4_1).f1) x31_3).f1)) ∧ w'.cell? ⟨go26, (x4_1).toNat, none⟩ = some (.int .i64 (rd x3_3 x4_1)) ∧ w'.cell? ⟨go26, (((rd_T100 ((rd_T94 l0 x4_1).f1) x31_3).f1)).toNat, none⟩ = some (.int .i64 (rd x3_3 ((rd_T100 ((rd_T94 l0 x4_1).f1) x31_3).f1)))) (ds := [14]) #[false, false, false, false, false, false, false, false, false, false, false, false, false, false, false] (by kernel_rfl) rfl rfl ⟨(blk_cell BK149.out 0).trans rfl, (blk_cell BK149.out 1).trans rfl, hx150_0, hx151_0⟩ (fun hHeld => ?_); refine with_tabW impl_counts.tab10 impl_counts.bits10 (fun HT_ HW_ => ?_)
                     generalize w29.drew = w30 at HO_3 BK149 HB GG26 HQ32 hf26_0 hx150_0 hx151_0 hx26_0 hHeld ⊢
                     refine pu 0 35 ?_
                     refine pu 1 36 ?_
                     refine pu 2 37 ?_
                     refine pu 3 38 ?_
                     refine pu 4 39 ?_
                     refine pu 6 41 ?_
                     refine pu 7 42 ?_
                     refine tk4 5 40 hHeld ?_
                     refine tk4 8 43 hHeld ?_
                     refine pu 9 44 ?_
                     refine tk4 10 45 hHeld ?_
                     refine pu 11 46 ?_
                     refine pu 12 47 ?_
                     refine pu 13 48 ?_
                     refine last_ (i := 14) (N := none) #[true, true, true, true, true, true, true, true, true, true, true, true, true, true, true] rfl rfl (one_of HT_.out (by kernel_rfl)) (by decide) (fun K hK => ?_)
                     refine skip_ (w1 := ?_) (by rfl) rfl ?_ ?_
                     rotate_left
                     ·go_simp
                      rfl
                     refine hK.out _ _ ?_
                     clear hK K
                     refine done_ (done_of HT_.out (by kernel_rfl)) ?_
                     try go_wp2
                     go_roundg k3
                     case measure => have := HK1.out; have := HJ8.out; have := HK3.out; omega
                     case rel => exact ⟨(y152), (wrap64 (x31_3 + 1)), sq, H', ⟨b83_⟩, ⟨rq HQ32.out⟩, ⟨bel2 GB26.out GE149.out⟩⟩
                    ·rw [if_neg c24] at H
                     exact absurd H (by simp)
                   ·rw [if_neg c23] at H
                    exact absurd H (by simp)
                  ·rw [if_neg c22] at H
                   exact absurd H (by simp)
                 ·rw [if_neg c21] at H
                  exact absurd H (by simp)
                ·rw [if_neg c20] at H
                 exact absurd H (by simp)
               ·rw [if_neg c19] at H
                exact absurd H (by simp)
              ·rw [if_neg c18] at H; have c18b0 := decide_eq_false c18; clear c18
               have H' := am H
               clear H; go_wp2
               go_roundg k3
               case measure => have := HK1.out; have := HJ8.out; have := HK3.out; omega
               case rel => exact ⟨(x3_3), (wrap64 (x4_1 - 1)), sq, H', ⟨b83_⟩, ⟨rq HO_3.out⟩, ⟨bel⟩⟩
           ·rw [if_neg c17] at H
            exact absurd H (by simp)
          ·rw [if_neg c16] at H
           exact absurd H (by simp)
       ·rw [if_neg c8] at H
        exact absurd H (by simp)
      ·rw [if_neg c7] at H
       exact absurd H (by simp)
     ·rw [if_neg c6] at H; have c6b0 := decide_eq_false c6; clear c6; obtain rfl := Option.some.inj H; go_wp2; go_ret
      exact ⟨_, eq_, b68_, bel⟩
  ·rw [if_neg c3] at H
   exact absurd H (by simp)
 ·rw [if_neg c2] at H
  exact absurd H (by simp)

/-! ### impl_MachineCount: function 35 -/
def impl_MachineCount.f (k : Nat) (l0 : List (S94)) : Option (Int) := (impl_MachineOk.f k l0).bind fun t153 => (if t153 = true then ((impl_counts.f k l0).bind fun t154 => (if 0 < (t154.length : Int) then (some (rd t154 0)) else (none))) else (some 0))
set_option maxHeartbeats 8000000 in
set_option maxRecDepth 100000 in
theorem impl_MachineCount.calls (k : Nat) (A0 : Option Addr) (c0 : Nat) (l0 : List (S94)) (r : Int) (w : World) (hr0 : Kd.C k94 w A0 l0.length l0) (hc0 : l0.length ≤ c0) (h : impl_MachineCount.f k l0 = some r) :
  Calls Try.prog 35 #[.slice A0 l0.length c0] w fun e w' => e = .returned (.int .i64 r) ∧ Below w.heap.size w w' := by
 have HR0 := am hr0; have HC0 := am hc0; clear hr0 hc0; have HB := am (Below.refl w.heap.size w)
 have H : ((impl_MachineOk.f k l0).bind fun t153 => (if t153 = true then ((impl_counts.f k l0).bind fun t154 => (if 0 < (t154.length : Int) then (some (rd t154 0)) else (none))) else (some 0))) = some r := h
 clear h; replace H := Option.bind_eq_some_iff.mp H; obtain ⟨t153, A20, H⟩ := H; replace H : (if t153 = true then ((impl_counts.f k l0).bind fun t154 => (if 0 < (t154.length : Int) then (some (rd t154 0)) else (none))) else (some 0)) = some r := H; have A2 := Aside0.mk A20; clear A20
 by_cases c3 : t153 = true
 ·subst c3
  have H1 : ((impl_counts.f k l0).bind fun t154 => (if 0 < (t154.length : Int) then (some (rd t154 0)) else (none))) = some r := b21_
  replace H := H1; clear H1
  replace H := Option.bind_eq_some_iff.mp H; obtain ⟨t154, A40, H⟩ := H; replace H : (if 0 < (t154.length : Int) then (some (rd t154 0)) else (none)) = some r := H; have A4 := Aside0.mk A40; clear A40
  by_cases c5 : 0 < (t154.length : Int)
  ·rw [if_pos c5] at H; have c5b0 := decide_eq_true c5
   have c5b1 : decide (0 < t154.length) = true := decide_eq_true (by omega)
   clear c5; obtain rfl := Option.some.inj H; go_enter Try.func35, Try.ntmps35
   go_wp2_with (first | ((with_reducible refine gate_callee (f := 44) rfl ?_); refine goesL_ (some 4) rfl rfl Try.func44 (by kernel_rfl) rfl #[.slice A0 l0.length c0] rfl mq ?_; (with_reducible refine (impl_MachineOk.calls k _ _ l0 true _ ?side1 ?side2 A2.out).mono ?_); (case side1 => repeat (first | exact HR0.out | (with_reducible refine Kd.C_alloc ?_ _) | (with_reducible refine Kd.C_drewN ?_ _) | (with_reducible refine Kd.C_drew ?_))); (case side2 => exact HC0.out); rintro e w6 ⟨rfl, hb⟩; refine ⟨_, rfl, ?_⟩; replace HB := am (below_step bel hb); (try clear hb); (try clear hb2); (try clear hk); (try clear hi)) | ((with_reducible refine gate_callee (f := 80) rfl ?_); refine goesL_ (some 7) rfl rfl Try.func80 (by kernel_rfl) rfl #[.slice A0 l0.length c0] rfl mq ?_; (with_reducible refine (impl_counts.calls k _ _ l0 t154 _ ?side1 ?side2 A4.out).mono ?_); (case side1 => exact cq (Kd.C_below HR0.out HB.out)); (case side2 => exact HC0.out); rintro e w7 ⟨v155, rfl, ho0, hb⟩; refine ⟨_, rfl, ?_⟩; have HO156 := am (Kd.R_lower ho0 (below_size bel)); replace HB := am (below_step bel hb); (try clear hb); (try clear hb2); (try clear hk); (try clear hi); (try clear ho0); obtain ⟨Ao8, co8, eo8⟩ := Kd.R_slice HO156.out; subst eo8; have p157 : 0 ≤ (0 : Int) := (by omega); have q157 : 0 < (t154.length : Int) := of_decide_eq_true ad; obtain ⟨ad157, e157, hx157_0⟩ := Kd.at_int (Kd.R_reads' HO156.out).2.2 0 p157 q157; cases e157; have qi157 : (0 < t154.length) = True := eq_true (by omega); (try rw [show ((0 : Int)).toNat = 0 from rfl] at hx157_0); (try rw [Addr.add_zero'] at hx157_0); replace p157 := eq_true p157; replace q157 := eq_true q157))
   go_ret
   exact ⟨eq_, bel⟩
  ·rw [if_neg c5] at H
   exact absurd H (by simp)
 ·replace c3 := Bool.eq_false_iff.mpr c3; subst c3
  have H1 : (some 0) = some r := b9_
  replace H := H1; clear H1
  obtain rfl := Option.some.inj H; go_enter Try.func35, Try.ntmps35
  go_wp2_with (first | ((with_reducible refine gate_callee (f := 44) rfl ?_); refine goesL_ (some 4) rfl rfl Try.func44 (by kernel_rfl) rfl #[.slice A0 l0.length c0] rfl mq ?_; (with_reducible refine (impl_MachineOk.calls k _ _ l0 false _ ?side1 ?side2 A2.out).mono ?_); (case side1 => repeat (first | exact HR0.out | (with_reducible refine Kd.C_alloc ?_ _) | (with_reducible refine Kd.C_drewN ?_ _) | (with_reducible refine Kd.C_drew ?_))); (case side2 => exact HC0.out); rintro e w9 ⟨rfl, hb⟩; refine ⟨_, rfl, ?_⟩; replace HB := am (below_step bel hb); (try clear hb); (try clear hb2); (try clear hk); (try clear hi)))
  go_ret
  exact ⟨eq_, bel⟩

/-! ### impl_State_step: function 84 -/
def impl_State_step.l0 : Nat → Int → List (S100) → Int → Int → Option (Int)
 | 0, _, _, _, _ => none
 | k + 1, x1, x8, x9, x10 => if x10 < x9 then (if 0 ≤ x10 then (if x10 < (x8.length : Int) then (if ((rd_T100 x8 x10).f0) = (wrap64 (x1)) then (some ((rd_T100 x8 x10).f1)) else (impl_State_step.l0 k x1 x8 x9 (wrap64 (x10 + 1)))) else (none)) else (none)) else (some (-1))
def impl_State_step.f (k : Nat) (a0_0 : Bool) (l0_1 : List (S100)) (a1 : Int) : Option (Int) := impl_State_step.l0 k a1 l0_1 (l0_1.length : Int) 0
set_option maxHeartbeats 8000000 in
set_option maxRecDepth 100000 in
theorem impl_State_step.calls (k : Nat) (a0_0 : Bool) (A0_1 : Option Addr) (c0_1 : Nat) (l0_1 : List (S100)) (a1 : Int) (r : Int) (w : World) (hr0_1 : Kd.C k100 w A0_1 l0_1.length l0_1) (hc0_1 : l0_1.length ≤ c0_1) (h : impl_State_step.f k a0_0 l0_1 a1 = some r) :
  Calls Try.prog 84 #[.agg #[.bool a0_0, .slice A0_1 l0_1.length c0_1], .int .u8 a1] w fun e w' => e = .returned (.int .i64 r) ∧ Below w.heap.size w w' := by
 have hu94 := Try.underlying94; have hu100 := Try.underlying100; have HR0_1 := am hr0_1; have HC0_1 := am hc0_1; clear hr0_1 hc0_1; have HB := am (Below.refl w.heap.size w)
 have H : (impl_State_step.l0 k a1 l0_1 (l0_1.length : Int) 0) = some r := h
 clear h
 have H' := am H
 clear H; go_enter Try.func84, Try.ntmps84
 go_wp2_with (first | ((with_reducible refine gate_dst (N := 2) rfl ?_); refine bx 2 (cs := #[.bool a0_0, .slice A0_1 l0_1.length c0_1]) (t := 94) ?_; intro gb158 hg w3 hbox hb; have BK158 := am (hbox); have GW158 := am ((b15_ : w.heap.size ≤ gb158)); have GE158 := am ((b15_ : w.heap.size ≤ gb158)); replace HB := am (below_step bel hb); clear hb hbox hg; have hcz4_0 := bc BK158.out 0; have hcz4_1 := bc BK158.out 1; have hfz4_0 := bf BK158.out 0; have hfz4_1 := bf BK158.out 1))
 go_loopg [10] k (fun kq v10 w' => ∃ (x10_1 : Int), v10 = .int .i64 x10_1 ∧ Aside0 (impl_State_step.l0 kq a1 l0_1 (l0_1.length : Int) x10_1 = some r) ∧ Aside0 (kq ≤ k) ∧ Aside0 (w'.heap[gb158]? = some (.cells #[.bool a0_0, (.slice A0_1 l0_1.length c0_1)] 94 (0, 0))) ∧ Aside0 (Below w.heap.size w w'))
 case atStart => exact ⟨(0), sq, H', ⟨Nat.le_refl _⟩, ⟨bq BK158.out⟩, ⟨bel1 GE158.out⟩⟩
 case round =>
  clear H'; (try clear p2); (try clear hcz4_0); (try clear hcz4_1); (try clear hfz4_0); (try clear hfz4_1); obtain ⟨x10_1, rfl, HA, HK1, BK158, HB⟩ := hrel
  cases gk with
  | zero => exact absurd HA.out (by simp [impl_State_step.l0])
  | succ k1 =>
   have H := HA.out; clear HA
   simp only [impl_State_step.l0] at H
   by_cases c5 : x10_1 < (l0_1.length : Int)
   ·rw [if_pos c5] at H; have c5b0 := decide_eq_true c5; clear c5
    by_cases c6 : 0 ≤ x10_1
    ·rw [if_pos c6] at H; have c6b0 := decide_eq_true c6; clear c6
     by_cases c7 : x10_1 < (l0_1.length : Int)
     ·rw [if_pos c7] at H; have c7b0 := decide_eq_true c7; clear c7
      by_cases c8 : ((rd_T100 l0_1 x10_1).f0) = (wrap64 (a1))
      ·rw [if_pos c8] at H
       have c8b0 : (((rd_T100 l0_1 x10_1).f0) == (wrap64 (a1))) = true := beq_iff_eq.mpr c8
       have c8b1 : (((rd_T100 l0_1 x10_1).f0) != (wrap64 (a1))) = false := bne_eq_false_iff_eq.mpr c8
       clear c8; obtain rfl := Option.some.inj H
       have p159 : 0 ≤ (x10_1 : Int) := of_decide_eq_true ad
       have q159 : x10_1 < (l0_1.length : Int) := of_decide_eq_true ad
       obtain ⟨ad159, e159, hx159_0, hx159_1⟩ := at_T100 HR0_1.out x10_1 p159 q159
       cases e159
       replace hx159_0 := kp HB.out hx159_0; replace hx159_1 := kp HB.out hx159_1; replace p159 := eq_true p159; replace q159 := eq_true q159
       go_wp2_with (first | ((with_reducible refine gate_dst (N := 6) rfl ?_); refine bx 6 (cs := #[.int .i64 0, .int .i64 0]) (t := 100) ?_; intro gb160 hg w9 hbox hb; have BK160 := am (hbox); have GW160 := am ((b86_ : w.heap.size ≤ gb160)); have GE160 := am ((b86_ : w.heap.size ≤ gb160)); replace HB := am (below_step (bel1 GE158.out) hb); have NB158_160 := am ((b77_ : gb158 ≠ gb160)); have NB160_158 := am ((b78_ : gb160 ≠ gb158)); replace BK158 := am (blk_below (g := gb158) (o := .cells #[.bool a0_0, .slice (some ad159) l0_1.length c0_1] 94 (0, 0)) (bq BK158.out) hb); clear hb hbox hg; have hnb10 := NB160_158.out; have hnc10 := NB158_160.out; have hcz11_0 := bc BK160.out 0; have hcz11_1 := bc BK160.out 1; have hfz11_0 := bf BK160.out 0; have hfz11_1 := bf BK160.out 1))
       go_ret
       exact ⟨eq_, bel2 GE158.out GE160.out⟩
      ·rw [if_neg c8] at H
       have c8b0 : (((rd_T100 l0_1 x10_1).f0) == (wrap64 (a1))) = false := beq_eq_false_iff_ne.mpr c8
       have c8b1 : (((rd_T100 l0_1 x10_1).f0) != (wrap64 (a1))) = true := bne_iff_ne.mpr c8
       have H' := am H
       clear H
       have p159 : 0 ≤ (x10_1 : Int) := of_decide_eq_true ad
       have q159 : x10_1 < (l0_1.length : Int) := of_decide_eq_true ad
       obtain ⟨ad159, e159, hx159_0, hx159_1⟩ := at_T100 HR0_1.out x10_1 p159 q159
       cases e159
       replace hx159_0 := kp HB.out hx159_0; replace hx159_1 := kp HB.out hx159_1; replace p159 := eq_true p159; replace q159 := eq_true q159
       go_wp2_with (first | ((with_reducible refine gate_dst (N := 6) rfl ?_); refine bx 6 (cs := #[.int .i64 0, .int .i64 0]) (t := 100) ?_; intro gb160 hg w12 hbox hb; have BK160 := am (hbox); have GW160 := am ((b86_ : w.heap.size ≤ gb160)); have GE160 := am ((b86_ : w.heap.size ≤ gb160)); replace HB := am (below_step (bel1 GE158.out) hb); have NB158_160 := am ((b77_ : gb158 ≠ gb160)); have NB160_158 := am ((b78_ : gb160 ≠ gb158)); replace BK158 := am (blk_below (g := gb158) (o := .cells #[.bool a0_0, .slice (some ad159) l0_1.length c0_1] 94 (0, 0)) (bq BK158.out) hb); clear hb hbox hg; have hnb13 := NB160_158.out; have hnc13 := NB158_160.out; have hcz14_0 := bc BK160.out 0; have hcz14_1 := bc BK160.out 1; have hfz14_0 := bf BK160.out 0; have hfz14_1 := bf BK160.out 1))
       go_roundg k1
       case measure => have := HK1.out; omega
       case rel => exact ⟨(wrap64 (x10_1 + 1)), sq, H', ⟨b64_⟩, ⟨by (with_reducible repeat (first | refine blk_drewN ?_ _ | refine blk_drew ?_ | refine blk_alloc ?_ _)); refine blk_far ?_ NB158_160.out _; (with_reducible repeat (first | refine blk_drewN ?_ _ | refine blk_drew ?_ | refine blk_alloc ?_ _)); refine blk_far ?_ NB158_160.out _; (with_reducible repeat (first | refine blk_drewN ?_ _ | refine blk_drew ?_ | refine blk_alloc ?_ _)); exact BK158.out⟩, ⟨bel2 GE158.out GE160.out⟩⟩
     ·rw [if_neg c7] at H
      exact absurd H (by simp)
    ·rw [if_neg c6] at H
     exact absurd H (by simp)
   ·rw [if_neg c5] at H; have c5b0 := decide_eq_false c5; clear c5; obtain rfl := Option.some.inj H; go_wp2; go_ret
    exact ⟨eq_, bel1 GE158.out⟩

end Go.Proofs.Ytfpmfaelodfecaa.QFnMachineKnows
