import Derived.Test.YtdfnijaacnlfaaaQFnMachineGuessesx0
import Derived.Test.YtdfnijaacnlfaaaQFnMachineGuessesx20
import Derived.Test.YtdfnijaacnlfaaaVMSh2
namespace Go.Proofs.Ytdfnijaacnlfaaa.QFnMachineGuesses
open Go.RowKit Go.Proofs.YtdfnijaacnlfaaaW.PrintWords Go.Proofs.YtdfnijaacnlfaaaW.PrintLast Go.Proofs.YtdfnijaacnlfaaaW.PrintMore Go.Proofs.Ytdfnijaacnlfaaa.Sh
attribute [local go_sem] max2_int min2_int max_two min_two max_three min_three max_four min_four
set_option linter.unusedVariables false
set_option linter.unusedSimpArgs false
set_option maxHeartbeats 8000000
set_option maxRecDepth 100000
-- shrunk

/-! ### impl_Far: function 29 -/
mutual
def impl_Far.j0 : Nat → ByteArray → ByteArray → Bool → Option (Int)
 | 0, _, _, _ => none
 | k + 1, x0, x1, x18 => if x18 = true then (some (-1)) else (if 0 ≤ (wrap64 ((x0.size : Int) + 1)) then (if (wrap64 ((x0.size : Int) + 1) : Int).toNat ≤ 11728124029610 then ((some (List.replicate (wrap64 ((x0.size : Int) + 1) : Int).toNat [] : List (List Int))).bind fun y680 => (impl_Far.l0 k x0 x1 y680 (y680.length : Int) 0)) else (none)) else (none))
def impl_Far.l0 : Nat → ByteArray → ByteArray → List (List Int) → Int → Int → Option (Int)
 | 0, _, _, _, _, _ => none
 | k + 1, x0, x1, x5, x24, x25 => if x25 < x24 then (if 0 ≤ (wrap64 ((x1.size : Int) + 1)) then (if (wrap64 ((x1.size : Int) + 1) : Int).toNat ≤ 35184372088832 then (if 0 ≤ x25 then (if x25 < (x5.length : Int) then ((some (x5.set (x25 : Int).toNat (List.replicate (wrap64 ((x1.size : Int) + 1) : Int).toNat 0) : List (List Int))).bind fun y686 => (if 0 < ((rd_L10 y686 x25).length : Int) then (impl_Far.l0 k x0 x1 (y686.set (x25 : Int).toNat ((rd_L10 y686 x25).set (0 : Int).toNat x25)) x24 (wrap64 (x25 + 1))) else (none))) else (none)) else (none)) else (none)) else (none)) else (if 0 < (x5.length : Int) then (impl_Far.l1 k x0 x1 x5 ((rd_L10 x5 0).length : Int) 0) else (none))
def impl_Far.l1 : Nat → ByteArray → ByteArray → List (List Int) → Int → Int → Option (Int)
 | 0, _, _, _, _, _ => none
 | k + 1, x0, x1, x5, x45, x46 => if x46 < x45 then (if 0 < (x5.length : Int) then (if 0 ≤ x46 then (if x46 < ((rd_L10 x5 0).length : Int) then (impl_Far.l1 k x0 x1 (x5.set (0 : Int).toNat ((rd_L10 x5 0).set (x46 : Int).toNat x46)) x45 (wrap64 (x46 + 1))) else (none)) else (none)) else (none)) else (impl_Far.l2 k x0 x1 x5 1)
def impl_Far.l2 : Nat → ByteArray → ByteArray → List (List Int) → Int → Option (Int)
 | 0, _, _, _, _ => none
 | k + 1, x0, x1, x5, x8 => if x8 ≤ (x0.size : Int) then (impl_Far.l3 k x0 x1 x5 x8 1) else (if 0 ≤ (x0.size : Int) then (if (x0.size : Int) < (x5.length : Int) then (if 0 ≤ (x1.size : Int) then (if (x1.size : Int) < ((rd_L10 x5 (x0.size : Int)).length : Int) then (some (rd (rd_L10 x5 (x0.size : Int)) (x1.size : Int))) else (none)) else (none)) else (none)) else (none))
def impl_Far.l3 : Nat → ByteArray → ByteArray → List (List Int) → Int → Int → Option (Int)
 | 0, _, _, _, _, _ => none
 | k + 1, x0, x1, x5, x8, x9 => if x9 ≤ (x1.size : Int) then (if 0 ≤ (wrap64 (x8 - 1)) then (if (wrap64 (x8 - 1)) < (x5.length : Int) then (if 0 ≤ (wrap64 (x9 - 1)) then (if (wrap64 (x9 - 1)) < ((rd_L10 x5 (wrap64 (x8 - 1))).length : Int) then (if (wrap64 (x8 - 1)) < (x0.size : Int) then (if (wrap64 (x9 - 1)) < (x1.size : Int) then (if (bt x0 (wrap64 (x8 - 1))) = (bt x1 (wrap64 (x9 - 1))) then (impl_Far.j5 k x0 x1 x5 x8 x9 (rd (rd_L10 x5 (wrap64 (x8 - 1))) (wrap64 (x9 - 1)))) else (impl_Far.j5 k x0 x1 x5 x8 x9 (wrap64 ((rd (rd_L10 x5 (wrap64 (x8 - 1))) (wrap64 (x9 - 1))) + 1)))) else (none)) else (none)) else (none)) else (none)) else (none)) else (none)) else (impl_Far.l2 k x0 x1 x5 (wrap64 (x8 + 1)))
def impl_Far.j5 : Nat → ByteArray → ByteArray → List (List Int) → Int → Int → Int → Option (Int)
 | 0, _, _, _, _, _, _ => none
 | k + 1, x0, x1, x5, x8, x9, x10 => if 0 ≤ (wrap64 (x8 - 1)) then (if (wrap64 (x8 - 1)) < (x5.length : Int) then (if 0 ≤ x9 then (if x9 < ((rd_L10 x5 (wrap64 (x8 - 1))).length : Int) then (if 0 ≤ x8 then (if x8 < (x5.length : Int) then (if 0 ≤ (wrap64 (x9 - 1)) then (if (wrap64 (x9 - 1)) < ((rd_L10 x5 x8).length : Int) then (if x8 > 1 then (if x9 > 1 then (if (wrap64 (x8 - 1)) < (x0.size : Int) then (if 0 ≤ (wrap64 (x9 - 2)) then (if (wrap64 (x9 - 2)) < (x1.size : Int) then (if (bt x0 (wrap64 (x8 - 1))) = (bt x1 (wrap64 (x9 - 2))) then (if 0 ≤ (wrap64 (x8 - 2)) then (if (wrap64 (x8 - 2)) < (x0.size : Int) then (if (wrap64 (x9 - 1)) < (x1.size : Int) then (impl_Far.j6 k x0 x1 x5 x8 x9 (mn (mn x10 (wrap64 ((rd (rd_L10 x5 (wrap64 (x8 - 1))) x9) + 1))) (wrap64 ((rd (rd_L10 x5 x8) (wrap64 (x9 - 1))) + 1))) ((bt x0 (wrap64 (x8 - 2))) == (bt x1 (wrap64 (x9 - 1))))) else (none)) else (none)) else (none)) else (impl_Far.j6 k x0 x1 x5 x8 x9 (mn (mn x10 (wrap64 ((rd (rd_L10 x5 (wrap64 (x8 - 1))) x9) + 1))) (wrap64 ((rd (rd_L10 x5 x8) (wrap64 (x9 - 1))) + 1))) false)) else (none)) else (none)) else (none)) else (impl_Far.j6 k x0 x1 x5 x8 x9 (mn (mn x10 (wrap64 ((rd (rd_L10 x5 (wrap64 (x8 - 1))) x9) + 1))) (wrap64 ((rd (rd_L10 x5 x8) (wrap64 (x9 - 1))) + 1))) false)) else (impl_Far.j6 k x0 x1 x5 x8 x9 (mn (mn x10 (wrap64 ((rd (rd_L10 x5 (wrap64 (x8 - 1))) x9) + 1))) (wrap64 ((rd (rd_L10 x5 x8) (wrap64 (x9 - 1))) + 1))) false)) else (none)) else (none)) else (none)) else (none)) else (none)) else (none)) else (none)) else (none)
def impl_Far.j6 : Nat → ByteArray → ByteArray → List (List Int) → Int → Int → Int → Bool → Option (Int)
 | 0, _, _, _, _, _, _, _ => none
 | k + 1, x0, x1, x5, x8, x9, x10, x135 => if x135 = true then (if 0 ≤ (wrap64 (x8 - 2)) then (if (wrap64 (x8 - 2)) < (x5.length : Int) then (if 0 ≤ (wrap64 (x9 - 2)) then (if (wrap64 (x9 - 2)) < ((rd_L10 x5 (wrap64 (x8 - 2))).length : Int) then (if 0 ≤ x8 then (if x8 < (x5.length : Int) then (if 0 ≤ x9 then (if x9 < ((rd_L10 x5 x8).length : Int) then (impl_Far.l3 k x0 x1 (x5.set (x8 : Int).toNat ((rd_L10 x5 x8).set (x9 : Int).toNat (mn x10 (wrap64 ((rd (rd_L10 x5 (wrap64 (x8 - 2))) (wrap64 (x9 - 2))) + 1))))) x8 (wrap64 (x9 + 1))) else (none)) else (none)) else (none)) else (none)) else (none)) else (none)) else (none)) else (none)) else (if 0 ≤ x8 then (if x8 < (x5.length : Int) then (if 0 ≤ x9 then (if x9 < ((rd_L10 x5 x8).length : Int) then (impl_Far.l3 k x0 x1 (x5.set (x8 : Int).toNat ((rd_L10 x5 x8).set (x9 : Int).toNat x10)) x8 (wrap64 (x9 + 1))) else (none)) else (none)) else (none)) else (none))
end
def impl_Far.f (k : Nat) (a0 : ByteArray) (a1 : ByteArray) : Option (Int) := (impl_WordOk.f k a0).bind fun t678 => (if t678 = true then ((impl_WordOk.f k a1).bind fun t679 => (impl_Far.j0 k a0 a1 (!t679))) else (impl_Far.j0 k a0 a1 true))
theorem impl_Far.calls (k : Nat) (a0 : ByteArray) (a1 : ByteArray) (r : Int) (w : World) (h : impl_Far.f k a0 a1 = some r) :
  Calls Try.prog 29 #[.string a0, .string a1] w fun e w' => e = .returned (.int .i64 r) ∧ Below w.heap.size w w' := by
 have HB := am (Below.refl w.heap.size w)
 have H := h; unfold impl_Far.f at H
 clear h; have HC3 := am H; clear H; go_enter Try.func29, Try.ntmps29
 go_upto_region 1 with (fail)
 go_cut [18] (fun v18 wc => ∃ (kq : Nat) (x18_2 : Bool), v18 = .bool x18_2 ∧ Aside0 (impl_Far.j0 kq a0 a1 x18_2 = some r) ∧ Aside0 (kq ≤ k) ∧ Aside0 (Below w.heap.size w wc))
 case first =>
  have H := HC3.out; clear HC3; replace H := bs H; obtain ⟨t678, A40, H⟩ := H; have A4 := Aside0.mk A40; clear A40
  by_cases c5 : t678 = true
  ·subst c5
   rw [if_pos rfl] at H
   replace H := bs H; obtain ⟨t679, A60, H⟩ := H; have A6 := Aside0.mk A60; clear A60
   have H' := am H
   clear H
   go_wp2_with (first | (go_at_call 78; (with_reducible refine (impl_WordOk.calls k a0 true _ A4.out).mono ?_); rintro e w' ⟨rfl, ⟨nd, rfl⟩⟩) | (go_at_call 78; (with_reducible refine (impl_WordOk.calls k a1 t679 _ A6.out).mono ?_); rintro e w' ⟨rfl, ⟨nd, rfl⟩⟩))
   go_meet
   case rel => exact ⟨_, (!t679), sq, H', ⟨b54_⟩, ⟨bel⟩⟩
  replace c5 := Bool.eq_false_iff.mpr c5; subst c5
  rw [if_neg Bool.false_ne_true] at H
  have H' := am H
  clear H
  go_wp2_with (go_at_call 78; (with_reducible refine (impl_WordOk.calls k a0 false _ A4.out).mono ?_); rintro e w' ⟨rfl, ⟨nd, rfl⟩⟩)
  go_meet
  case rel => exact ⟨_, (true), sq, H', ⟨b54_⟩, ⟨bel⟩⟩
 case rest =>
  clear HC3; obtain ⟨kq, x18_2, rfl, HA, HJ2, HB⟩ := hcut
  cases kq with
  | zero => exact absurd HA.out (by simp [impl_Far.j0])
  | succ kj2 =>
   have H := HA.out; clear HA; simp only [impl_Far.j0] at H
   by_cases c7 : x18_2 = true
   ·subst c7
    rw [if_pos rfl] at H
    obtain rfl := Option.some.inj H; go_wp2
    go_ret
    exact ⟨eq_, bel⟩
   replace c7 := Bool.eq_false_iff.mpr c7; subst c7
   rw [if_neg Bool.false_ne_true] at H
   obtain ⟨ji8, hji8⟩ : ∃ j_ : Int, (wrap64 ((a0.size : Int) + 1)) = j_ := ⟨_, rfl⟩
   rw [hji8] at H
   have hji8w : (IntKind.i64.wrap ((a0.size : Int) + 1)) = ji8 := (i64_w _).trans hji8
   replace H := ip H; obtain ⟨c9, H⟩ := H; have c9b0 := eq_true c9
   have c9b1 : decide (0 ≤ (ji8)) = true := decide_eq_true c9
   clear c9; replace H := ip H; obtain ⟨c10, H⟩ := H; have c10b0 := eq_true c10
   have c10b1 : decide ((ji8 : Int).toNat ≤ 11728124029610) = true := decide_eq_true c10
   clear c10; obtain ⟨y680, hy680⟩ : ∃ y_ : List (List Int), y_ = (List.replicate (ji8 : Int).toNat []) := ⟨_, rfl⟩
   replace H := bm H; rw [← hy680] at H
   have Ny680 := am hy680; clear hy680
   have H' := am H
   clear H
   go_wp2_with ((with_reducible refine gate_dst (N := 22) rfl ?_); refine Kd.S_make (Kd.slice 3 (Kd.int .i64)) _ 99 rfl (N := 22) rfl 101 _ _ rfl ji8 rfl rfl Try.underlying101 (.slice none 0 0) 24 info99 rfl (by decide) (by omega) [] (ok := fun _ => True) (okp := fun _ => True) ⟨_, rfl, Kd.R_nil _ _ _ _ _⟩ (fun _ hk => hk) trivial (of_decide_eq_true ad) (Nat.le_trans (Nat.mul_le_mul_right _ (of_decide_eq_true ad : ji8.toNat ≤ 11728124029610)) (by omega)) (Below.refl _ _) (Nat.le_refl _) ?_; intro v681 w11 ho12 hb hg_ hnew_; clear hg_ hnew_; (rw [← Ny680.out] at ho12); have HO682 := am (Kd.S_lower ho12 (below_size bel)); replace HB := am (below_step bel hb); clear hb ho12; obtain ⟨Ao13, co13, eo13⟩ := Kd.S_slice HO682.out; subst eo13)
   go_loopg [25] kj2 (fun kq v25 w' => ∃ (x5_2 : List (List Int)) (x25_2 : Int), v25 = .int .i64 x25_2 ∧ Aside0 (impl_Far.l0 kq a0 a1 x5_2 (y680.length : Int) x25_2 = some r) ∧ Aside0 (kq ≤ kj2) ∧ Aside0 (Kd.S (Kd.slice 3 (Kd.int .i64)) 99 w' w.heap.size (fun _ => True) (.slice Ao13 y680.length co13) x5_2) ∧ Aside0 (Below w.heap.size w w'))
   case atStart => exact ⟨(y680), (0), sq, H', ⟨Nat.le_refl _⟩, ⟨by (with_reducible repeat (fail)); exact HO682.out⟩, ⟨bel⟩⟩
   case round =>
    clear H'; clear c9b0 c9b1 c10b0 c10b1; obtain ⟨x5_2, x25_2, rfl, HA, HK2, HO_5, HB⟩ := hrel; have hl5_2 := (Kd.S_reads' HO_5.out).1; rw [hl5_2] at HO_5
    simp only [hl5_2]
    cases gk with
    | zero => exact absurd HA.out (by simp [impl_Far.l0])
    | succ k2 =>
     have H := HA.out; clear HA; simp only [impl_Far.l0] at H
     by_cases c14 : x25_2 < (y680.length : Int)
     ·rw [if_pos c14] at H; have c14b0 := decide_eq_true c14
      have c14b8 := c14b0
      simp only [hl5_2] at c14b8
      clear c14; obtain ⟨ji15, hji15⟩ : ∃ j_ : Int, (wrap64 ((a1.size : Int) + 1)) = j_ := ⟨_, rfl⟩
      rw [hji15] at H
      have hji15w : (IntKind.i64.wrap ((a1.size : Int) + 1)) = ji15 := (i64_w _).trans hji15
      replace H := ip H; obtain ⟨c16, H⟩ := H; have c16b0 := eq_true c16
      have c16b1 : decide (0 ≤ (ji15)) = true := decide_eq_true c16
      clear c16; replace H := ip H; obtain ⟨c17, H⟩ := H; have c17b0 := eq_true c17
      have c17b1 : decide ((ji15 : Int).toNat ≤ 35184372088832) = true := decide_eq_true c17
      clear c17; obtain ⟨y683, hy683⟩ : ∃ y_ : List Int, y_ = (List.replicate (ji15 : Int).toNat 0) := ⟨_, rfl⟩
      rw [← hy683] at H
      have Ny683 := am hy683; clear hy683; replace H := it H; obtain ⟨c18b0, H⟩ := H; replace H := ip H; obtain ⟨c19, H⟩ := H; have c19b0 := decide_eq_true c19
      have c19b8 := c19b0
      clear c19; obtain ⟨y686, hy686⟩ : ∃ y_ : List (List Int), y_ = (x5_2.set (x25_2 : Int).toNat y683) := ⟨_, rfl⟩
      replace H := bm H; rw [← hy686] at H
      have Ny686 := am hy686; clear hy686; replace H := ip H; obtain ⟨c21, H⟩ := H; have c21b0 := decide_eq_true c21
      have c21b8 := c21b0
      have c21b1 : decide (0 < (rd_L10 y686 x25_2).length) = true := decide_eq_true (by omega)
      clear c21; obtain ⟨y688, hy688⟩ : ∃ y_ : List Int, y_ = ((rd_L10 y686 x25_2).set (0 : Int).toNat x25_2) := ⟨_, rfl⟩
      rw [← hy688] at H
      have Ny688 := am hy688; clear hy688; obtain ⟨y690, hy690⟩ : ∃ y_ : List (List Int), y_ = (y686.set (x25_2 : Int).toNat y688) := ⟨_, rfl⟩
      rw [← hy690] at H
      have Ny690 := am hy690; clear hy690
      have H' := am H
      clear H
      go_wp2_with (first | ((with_reducible refine gate_dst (N := 33) rfl ?_); refine Kd.R_make (Kd.int .i64) _ 3 rfl (N := 33) rfl 99 _ _ rfl ji15 rfl rfl Try.underlying99 (.int .i64 0) 8 info3 rfl (by decide) (by omega) 0 (ok := fun _ => True) (okp := fun _ => True) rfl (fun _ hk => hk) trivial (of_decide_eq_true ad) (Nat.le_trans (Nat.mul_le_mul_right _ (of_decide_eq_true ad : ji15.toNat ≤ 35184372088832)) (by omega)) (Below.refl _ _) (Nat.le_refl _) ?_; intro v684 w23 ho24 hb hg_ hnew_; clear hg_ hnew_; (rw [← Ny683.out] at ho24); replace HO_5 := am (Kd.S_elder' b7_ (Kd.R_base ho24) hb); have HO685 := am (Kd.R_lower ho24 (below_size bel)); replace HB := am (below_step bel hb); clear hb ho24; have p20 : 0 ≤ (x25_2 : Int) := of_decide_eq_true ad; have q20 : (x25_2 : Int) < ((x5_2.length : Int) : Int) := of_decide_eq_true ad; obtain ⟨go20, co20, eo20, gb20, gl20, cl20, HG20⟩ := Kd.S_form HO_5.out (by omega); (cases eo20); have GB20 := Aside0.mk gb20; have GG20 := am HG20; clear gb20 gl20 HG20; obtain ⟨_, ce20, hcl20, hM20, hcc20, hfr20, _, _⟩ := Kd.S_elem HO_5.out [] (x25_2 : Int) p20 q20; obtain ⟨ve20_0, rfl, ge20_0⟩ := hM20; have hx20_0 := hcc20 0 _ rfl; have hf20_0 := hfr20 0; simp only [show ((Kd.slice 3 (Kd.int .i64))).sz = 1 from rfl, Nat.mul_one, Nat.add_zero] at hx20_0; simp only [show ((Kd.slice 3 (Kd.int .i64))).sz = 1 from rfl, Nat.mul_one, Nat.add_zero] at hf20_0; clear hcl20 hcc20 hfr20; replace p20 := eq_true p20; replace q20 := eq_true q20; have n_ := am (Kd.S_mono (ok' := (fun k_ => some k_ ≠ (v684 : Value).ownBlock)) HO_5.out (fun k_ hk => hk.2)); clear HO_5; have HO_5 := n_; clear n_; have HX25 := am (show Kd.S (Kd.slice 3 (Kd.int .i64)) 99 w23 w.heap.size (fun k_ => ((fun _ => True)) k_ ∧ ¬ ((fun k_ => some k_ = (v684 : Value).ownBlock)) k_) (.slice (some ⟨go20, 0, none⟩) x5_2.length co13) x5_2 from b35_); obtain ⟨oki25, ce25, hcl25, hM25, hcc25, hfr25, hoki25, hH25⟩ := Kd.S_elem HX25.out [] (x25_2 : Int) (of_decide_eq_true ad) b14_; obtain ⟨ve25_0, rfl, ge25_0⟩ := hM25; have HP25 := Kd.S_seg hH25 (of_decide_eq_true ad) b14_ (seg := [v684]) (j := 0) (show 1 ≤ 1 from by decide) (x' := y683) (Kd.M_row (Kd.R_mono (Kd.R_tight rfl (Kd.R_mono (ok' := fun k_ => ((fun _ => True)) k_ ∧ k_ ≠ go20) (Kd.R_apart' (HO685.out) (Kd.S_typed HO_5.out) (by decide)) (fun k_ hk => ⟨trivial, fun e_ => (hk.2) (by rw [e_]; rfl)⟩))) (fun _ h_ => Or.inr (h_)))) (fun _ hk => hk) (fun k_ hk_ => ((Kd.R_mono (ok' := fun k_ => ((fun _ => True)) k_ ∧ k_ ≠ go20) (Kd.R_apart' (HO685.out) (Kd.S_typed HO_5.out) (by decide)) (fun k_ hk => ⟨trivial, fun e_ => (hk.2) (by rw [e_]; rfl)⟩))).1 k_ hk_.symm); have hx25_0 := hcc25 0 _ rfl; simp only [show ((Kd.slice 3 (Kd.int .i64))).sz = 1 from rfl, Nat.mul_one, Nat.add_zero] at hx25_0; have hf25_0 := hfr25 0; simp only [show ((Kd.slice 3 (Kd.int .i64))).sz = 1 from rfl, Nat.mul_one, Nat.add_zero] at hf25_0; clear hcl25 hcc25 hfr25 hoki25 hH25; simp only [show ((Kd.slice 3 (Kd.int .i64))).sz = 1 from rfl, Nat.mul_one, Nat.add_zero] at HP25) | ((with_reducible refine gate_store (t := 99) (p := 34) rfl ?_); have hcs_ := (by obtain ⟨A_, c_, e_⟩ := Kd.R_slice HO685.out; rw [e_]; rfl : Value.cells v684 = #[v684]); unfold Value.cells at hcs_; have hst_ := (by obtain ⟨A_, c_, e_⟩ := Kd.R_slice HO685.out; intro a_ w_ m_; rw [e_]; exact run_store_slice _ _ _ _ _ _ _ : ∀ (a_ : Addr) (w_ : World) (m_ : Mode), (store a_ v684 m_).run Try.prog w_ = stored Try.prog w_ a_ v684 m_); refine store_event (t := 99) (p := 34) (v := ?vo_w26) (w1 := (w23.setCell ⟨go20, (x25_2 : Int).toNat, none⟩ (v684))) ?hg ?ho ?hn ?hr ?_; (case ho => rfl); (case hg => rfl); (case hn => rfl); (case hr => (go_simp; done)); intro w26 hw; have hg : w23.grownBy w26 (some go20) := (by rw [hw]; exact HP25.2); have hp_ : Kd.S (Kd.slice 3 (Kd.int .i64)) 99 w26 w.heap.size (fun _ => True) (.slice (some ⟨go20, 0, none⟩) x5_2.length co13) y686 := (by rw [hw, Ny686.out]; exact HP25.1); clear HP25; replace HO_5 := am (hp_); replace HB := am ((by rw [hw]; exact below_set (HB.out) GB20.out : Below w.heap.size w w26)); clear HO685; clear hg hw hp_; have p687 : 0 ≤ (x25_2 : Int) := of_decide_eq_true ad; have q687 : x25_2 < (y686.length : Int) := b62_; have ql687 : ((x25_2 : Int) < ((x5_2.length : Int) : Int)) = True := eq_true (of_decide_eq_true ad); obtain ⟨ad687, A687_0, c687_0, e687, hx687_0, hl687_0, hi687_0⟩ := at_L10 (Kd.S_reads' HO_5.out).2.2 x25_2 p687 q687; obtain rfl : (⟨go20, 0, none⟩ : Addr) = ad687 := (by injection e687); obtain ⟨ce687, hce687, hMe687, hcc687⟩ := Kd.S_get HO_5.out [] x25_2 p687 b95_; obtain ⟨ve687_0, rfl, ge687_0⟩ := hMe687; have hv687_0 := hcc687 0 _ rfl; rw [Nat.add_zero, show ((Kd.slice 3 (Kd.int .i64))).sz = 1 from rfl, Nat.mul_one] at hv687_0; replace hv687_0 := Option.some.inj (hv687_0.symm.trans hx687_0); rw [hv687_0] at ge687_0; have HL687_0 := am (show Kd.R (Kd.int .i64) 3 _ _ _ _ (rd_L10 y686 x25_2) from ge687_0); clear hv687_0 ge687_0; have HX687_0 := am hx687_0; clear hcc687 hce687; (simp only [add_plain] at hx687_0); have HR687_0 := am hi687_0; have HC687_0 := am hl687_0; clear hi687_0 hl687_0; replace p687 := eq_true p687; replace q687 := eq_true q687; have p22 : 0 ≤ (0 : Int) := (by omega); have q22 : (0 : Int) < (((rd_L10 y686 x25_2).length : Int) : Int) := of_decide_eq_true ad; have qi22 : (0 < (rd_L10 y686 x25_2).length) = True := eq_true (by omega); obtain ⟨go22, co22, eo22, gb22, gl22, cl22, HG22⟩ := Kd.R_form HL687_0.out (by omega); (cases eo22); have GB22 := Aside0.mk gb22; have GG22 := am HG22; clear gb22 gl22 HG22; obtain ⟨hx22_0, hf22_0⟩ := Kd.R_celln 0 HL687_0.out (0 : Int) p22 q22; rw [show ((0 : Int)).toNat = 0 from rfl] at hx22_0; rw [show ((0 : Int)).toNat = 0 from rfl] at hf22_0; replace p22 := eq_true p22; replace q22 := eq_true q22; have hq27 : (x25_2 : Int) < (y686.length : Int) := b27_; obtain ⟨oki27, ce27, hcl27, hM27, hcc27, hok27, hbk27⟩ := Kd.S_borrow HO_5.out [] (x25_2 : Int) (of_decide_eq_true ad) b96_; obtain ⟨ve27_0, rfl, ge27_0⟩ := hM27; have hv27 := hcc27 0 _ rfl; rw [Nat.add_zero, show ((Kd.slice 3 (Kd.int .i64))).sz = 1 from rfl, Nat.mul_one] at hv27; replace hv27 := Option.some.inj (hv27.symm.trans HX687_0.out); subst hv27; clear hcc27 hcl27; replace ge27_0 := (show Kd.R (Kd.int .i64) 3 _ _ _ _ (rd_L10 y686 x25_2) from ge27_0); have HP27 := Kd.R_putg ge27_0 (0 : Int) x25_2) | ((with_reducible refine gate_store (t := 3) (p := 40) rfl ?_); refine store_event (t := 3) (p := 40) (v := ?vo_w28) (w1 := (w26.setCell ⟨go22, 0, none⟩ (.int .i64 x25_2))) ?hg ?ho ?hn ?hr ?_; (case ho => rfl); (case hg => rfl); (case hn => rfl); (case hr => (go_simp; done)); intro w28 hw; have hg : w26.grownBy w28 (some go22) := (by rw [hw]; exact HP27.2); have hz_ : Kd.R (Kd.int .i64) 3 w28 w.heap.size oki27 (.slice (some ⟨go22, 0, none⟩) (rd_L10 y686 x25_2).length c687_0) y688 := (by rw [hw, Ny688.out]; exact HP27.1); have hp_ : Kd.S (Kd.slice 3 (Kd.int .i64)) 99 w28 w.heap.size (fun _ => True) (.slice (some ⟨go20, 0, none⟩) x5_2.length co13) y690 := b78_; have hm_ := Kd.R_mono hz_ hok27; clear HP27 hbk27; replace HO_5 := am (hp_); replace HB := am ((b109_ : Below w.heap.size w w28)); have HL714 := am (hm_); have HC689 := am ((Kd.R_reads' hm_).2.1); clear HL687_0; clear hg hw hp_ hz_ hm_ hok27))
      simp only [← hl5_2]
      go_roundg k2
      case measure => have := HJ2.out; have := HK2.out; omega
      case rel => exact ⟨(y690), (wrap64 (x25_2 + 1)), sq, H', ⟨by have := HJ2.out; have := HK2.out; omega⟩, ⟨b103_⟩, ⟨bel⟩⟩
     rw [if_neg c14] at H; have c14b0 := decide_eq_false c14
     have c14b8 := c14b0
     simp only [hl5_2] at c14b8
     clear c14; replace H := ip H; obtain ⟨c29, H⟩ := H; have c29b0 := decide_eq_true c29
     have c29b8 := c29b0
     have c29b1 : decide (0 < x5_2.length) = true := decide_eq_true (by omega)
     clear c29
     have H' := am H
     clear H
     have p691 : 0 ≤ (0 : Int) := (by omega)
     have q691 : 0 < (x5_2.length : Int) := of_decide_eq_true ad
     obtain ⟨ad691, A691_0, c691_0, e691, hx691_0, hl691_0, hi691_0⟩ := at_L10 (Kd.S_reads' HO_5.out).2.2 0 p691 q691; cases e691
     obtain ⟨ce691, hce691, hMe691, hcc691⟩ := Kd.S_get HO_5.out [] 0 p691 (by exact q691)
     obtain ⟨ve691_0, rfl, ge691_0⟩ := hMe691; have hv691_0 := hcc691 0 _ rfl; rw [Nat.add_zero, show ((Kd.slice 3 (Kd.int .i64))).sz = 1 from rfl, Nat.mul_one] at hv691_0; replace hv691_0 := Option.some.inj (hv691_0.symm.trans hx691_0); rw [hv691_0] at ge691_0; have HL691_0 := am (show Kd.R (Kd.int .i64) 3 _ _ _ _ (rd_L10 x5_2 0) from ge691_0); clear hv691_0 ge691_0; have HX691_0 := am hx691_0; clear hcc691 hce691
     have qi691 : (0 < x5_2.length) = True := eq_true (by omega)
     rw [show ((0 : Int)).toNat = 0 from rfl] at hx691_0
     rw [Addr.add_zero'] at hx691_0
     have HR691_0 := am hi691_0; have HC691_0 := am hl691_0; clear hi691_0 hl691_0; replace p691 := eq_true p691; replace q691 := eq_true q691; go_wp2
     go_loopg [46] k2 (fun kq v46 w' => ∃ (x5_3 : List (List Int)) (x46_3 : Int), v46 = .int .i64 x46_3 ∧ Aside0 (impl_Far.l1 kq a0 a1 x5_3 ((rd_L10 x5_2 0).length : Int) x46_3 = some r) ∧ Aside0 (kq ≤ k2) ∧ Aside0 (Kd.S (Kd.slice 3 (Kd.int .i64)) 99 w' w.heap.size (fun _ => True) (.slice (some ad691) x5_2.length co13) x5_3) ∧ Aside0 (Below w.heap.size w w'))
     case atStart => exact ⟨(x5_2), (0), sq, H', ⟨Nat.le_refl _⟩, ⟨b103_⟩, ⟨bel⟩⟩
     case round =>
      clear H'; clear c14b0 c29b0 c29b1 hx691_0 p691 q691; obtain ⟨x5_3, x46_3, rfl, HA, HK3, HO_5, HB⟩ := hrel; have hl5_3 := (Kd.S_reads' HO_5.out).1; rw [hl5_3] at HO_5
      simp only [hl5_3]
      cases gk with
      | zero => exact absurd HA.out (by simp [impl_Far.l1])
      | succ k3 =>
       have H := HA.out; clear HA; simp only [impl_Far.l1] at H
       by_cases c30 : x46_3 < ((rd_L10 x5_2 0).length : Int)
       ·rw [if_pos c30] at H; have c30b0 := decide_eq_true c30
        have c30b8 := c30b0
        clear c30; replace H := ip H; obtain ⟨c31, H⟩ := H; have c31b0 := decide_eq_true c31
        have c31b8 := c31b0
        have c31b1 : decide (0 < x5_3.length) = true := decide_eq_true (by omega)
        clear c31; replace H := it H; obtain ⟨c32b0, H⟩ := H; replace H := ip H; obtain ⟨c33, H⟩ := H; have c33b0 := decide_eq_true c33
        have c33b8 := c33b0
        clear c33; obtain ⟨y693, hy693⟩ : ∃ y_ : List Int, y_ = ((rd_L10 x5_3 0).set (x46_3 : Int).toNat x46_3) := ⟨_, rfl⟩
        rw [← hy693] at H
        have Ny693 := am hy693; clear hy693; obtain ⟨y695, hy695⟩ : ∃ y_ : List (List Int), y_ = (x5_3.set (0 : Int).toNat y693) := ⟨_, rfl⟩
        rw [← hy695] at H
        have Ny695 := am hy695; clear hy695
        have H' := am H
        clear H
        have p692 : 0 ≤ (0 : Int) := (by omega)
        have q692 : 0 < (x5_3.length : Int) := of_decide_eq_true ad
        obtain ⟨ad692, A692_0, c692_0, e692, hx692_0, hl692_0, hi692_0⟩ := at_L10 (Kd.S_reads' HO_5.out).2.2 0 p692 q692
        obtain rfl : ad691 = ad692 := (by injection e692)
        obtain ⟨ce692, hce692, hMe692, hcc692⟩ := Kd.S_get HO_5.out [] 0 p692 (by exact q692)
        obtain ⟨ve692_0, rfl, ge692_0⟩ := hMe692; have hv692_0 := hcc692 0 _ rfl; rw [Nat.add_zero, show ((Kd.slice 3 (Kd.int .i64))).sz = 1 from rfl, Nat.mul_one] at hv692_0; replace hv692_0 := Option.some.inj (hv692_0.symm.trans hx692_0); rw [hv692_0] at ge692_0; have HL692_0 := am (show Kd.R (Kd.int .i64) 3 _ _ _ _ (rd_L10 x5_3 0) from ge692_0); clear hv692_0 ge692_0; have HX692_0 := am hx692_0; clear hcc692 hce692
        have qi692 : (0 < x5_3.length) = True := eq_true (by omega)
        rw [show ((0 : Int)).toNat = 0 from rfl] at hx692_0
        rw [Addr.add_zero'] at hx692_0
        have HR692_0 := am hi692_0; have HC692_0 := am hl692_0; clear hi692_0 hl692_0; replace p692 := eq_true p692; replace q692 := eq_true q692
        have p34 : 0 ≤ (x46_3 : Int) := of_decide_eq_true ad
        have q34 : (x46_3 : Int) < (((rd_L10 x5_3 0).length : Int) : Int) := of_decide_eq_true ad
        obtain ⟨go34, co34, eo34, gb34, gl34, cl34, HG34⟩ := Kd.R_form HL692_0.out (by omega)
        (cases eo34)
        have GB34 := Aside0.mk gb34; have GG34 := am HG34; clear gb34 gl34 HG34; obtain ⟨hx34_0, hf34_0⟩ := Kd.R_celln 0 HL692_0.out (x46_3 : Int) p34 q34; replace p34 := eq_true p34; replace q34 := eq_true q34
        have hq35 : (0 : Int) < (x5_3.length : Int) := b41_
        obtain ⟨oki35, ce35, hcl35, hM35, hcc35, hok35, hbk35⟩ := Kd.S_borrow HO_5.out [] (0 : Int) (by omega) hq35
        obtain ⟨ve35_0, rfl, ge35_0⟩ := hM35; have hv35 := hcc35 0 _ rfl; rw [Nat.add_zero, show ((Kd.slice 3 (Kd.int .i64))).sz = 1 from rfl, Nat.mul_one] at hv35; replace hv35 := Option.some.inj (hv35.symm.trans HX692_0.out); subst hv35; clear hcc35 hcl35; replace ge35_0 := (show Kd.R (Kd.int .i64) 3 _ _ _ _ (rd_L10 x5_3 0) from ge35_0); have HP35 := Kd.R_putg ge35_0 (x46_3 : Int) x46_3
        go_wp2_with ((with_reducible refine gate_store (t := 3) (p := 54) rfl ?_); refine store_event (t := 3) (p := 54) (v := ?vo_w36) (w1 := (wr.setCell ⟨go34, (x46_3 : Int).toNat, none⟩ (.int .i64 x46_3))) ?hg ?ho ?hn ?hr ?_; (case ho => rfl); (case hg => rfl); (case hn => rfl); (case hr => (go_simp; done)); intro w36 hw; have hg : wr.grownBy w36 (some go34) := (by rw [hw]; exact HP35.2); have hz_ : Kd.R (Kd.int .i64) 3 w36 w.heap.size oki35 (.slice (some ⟨go34, 0, none⟩) (rd_L10 x5_3 0).length c692_0) y693 := (by rw [hw, Ny693.out]; exact HP35.1); have hp_ : Kd.S (Kd.slice 3 (Kd.int .i64)) 99 w36 w.heap.size (fun _ => True) (.slice (some ad691) x5_3.length co13) y695 := b79_; have hm_ := Kd.R_mono hz_ hok35; clear HP35 hbk35; replace HO_5 := am (hp_); replace HB := am ((by rw [hw]; exact below_set (HB.out) GB34.out : Below w.heap.size w w36)); have HL715 := am (hm_); have HC694 := am ((Kd.R_reads' hm_).2.1); clear HL692_0; clear hg hw hp_ hz_ hm_ hok35)
        simp only [← hl5_3]
        go_roundg k3
        case measure => have := HJ2.out; have := HK2.out; have := HK3.out; omega
        case rel => exact ⟨(y695), (wrap64 (x46_3 + 1)), sq, H', ⟨by have := HJ2.out; have := HK2.out; have := HK3.out; omega⟩, ⟨b90_⟩, ⟨bel⟩⟩
       rw [if_neg c30] at H; have c30b0 := decide_eq_false c30
       have c30b8 := c30b0
       clear c30
       have H' := am H
       clear H; go_wp2
       go_loopg [8] k3 (fun kq v8 w' => ∃ (x5_4 : List (List Int)) (x8_4 : Int), v8 = .int .i64 x8_4 ∧ Aside0 (impl_Far.l2 kq a0 a1 x5_4 x8_4 = some r) ∧ Aside0 (kq ≤ k3) ∧ Aside0 (Kd.S (Kd.slice 3 (Kd.int .i64)) 99 w' w.heap.size (fun _ => True) (.slice (some ad691) x5_3.length co13) x5_4) ∧ Aside0 (Below w.heap.size w w'))
       case atStart => exact ⟨(x5_3), (1), sq, H', ⟨Nat.le_refl _⟩, ⟨b90_⟩, ⟨bel⟩⟩
       case round =>
        clear H'; clear c30b0; obtain ⟨x5_4, x8_4, rfl, HA, HK4, HO_5, HB⟩ := hrel; have hl5_4 := (Kd.S_reads' HO_5.out).1; rw [hl5_4] at HO_5
        simp only [hl5_4]
        cases gk with
        | zero => exact absurd HA.out (by simp [impl_Far.l2])
        | succ k4 =>
         have H := HA.out; clear HA; simp only [impl_Far.l2] at H
         by_cases c37 : x8_4 ≤ (a0.size : Int)
         ·rw [if_pos c37] at H; have c37b0 := decide_eq_true c37; clear c37
          have H' := am H
          clear H; go_wp2
          go_loopg [9] k4 (fun kq v9 w' => ∃ (x5_5 : List (List Int)) (x9_5 : Int), v9 = .int .i64 x9_5 ∧ Aside0 (impl_Far.l3 kq a0 a1 x5_5 x8_4 x9_5 = some r) ∧ Aside0 (kq ≤ k4) ∧ Aside0 (Kd.S (Kd.slice 3 (Kd.int .i64)) 99 w' w.heap.size (fun _ => True) (.slice (some ad691) x5_4.length co13) x5_5) ∧ Aside0 (Below w.heap.size w w'))
          case atStart => exact ⟨(x5_4), (1), sq, H', ⟨Nat.le_refl _⟩, ⟨by (with_reducible repeat (fail)); exact HO_5.out⟩, ⟨bel⟩⟩
          case round =>
           clear H'; clear c37b0; obtain ⟨x5_5, x9_5, rfl, HA, HK5, HO_5, HB⟩ := hrel; have hl5_5 := (Kd.S_reads' HO_5.out).1; rw [hl5_5] at HO_5
           simp only [hl5_5]
           cases gk with
           | zero => exact absurd HA.out (by simp [impl_Far.l3])
           | succ k5 =>
            have H := HA.out; clear HA; simp only [impl_Far.l3] at H
            by_cases c38 : x9_5 ≤ (a1.size : Int)
            ·rw [if_pos c38] at H; have c38b0 := decide_eq_true c38; clear c38; obtain ⟨ji39, hji39⟩ : ∃ j_ : Int, (wrap64 (x8_4 - 1)) = j_ := ⟨_, rfl⟩
             rw [hji39] at H
             have hji39w : (IntKind.i64.wrap (x8_4 - 1)) = ji39 := (i64_w _).trans hji39
             replace H := it H; obtain ⟨c40b0, H⟩ := H; replace H := ip H; obtain ⟨c41, H⟩ := H; have c41b0 := decide_eq_true c41
             have c41b8 := c41b0
             clear c41; obtain ⟨ji42, hji42⟩ : ∃ j_ : Int, (wrap64 (x9_5 - 1)) = j_ := ⟨_, rfl⟩
             rw [hji42] at H
             have hji42w : (IntKind.i64.wrap (x9_5 - 1)) = ji42 := (i64_w _).trans hji42
             replace H := it H; obtain ⟨c43b0, H⟩ := H; replace H := ip H; obtain ⟨c44, H⟩ := H; have c44b0 := decide_eq_true c44
             have c44b8 := c44b0
             clear c44; replace H := it H; obtain ⟨c45b0, H⟩ := H; replace H := it H; obtain ⟨c47b0, H⟩ := H; have HC49 := am H; clear H
             have p698 : 0 ≤ ((ji39) : Int) := of_decide_eq_true ad
             have q698 : (ji39) < (x5_5.length : Int) := of_decide_eq_true ad
             obtain ⟨ad698, A698_0, c698_0, e698, hx698_0, hl698_0, hi698_0⟩ := at_L10 (Kd.S_reads' HO_5.out).2.2 (ji39) p698 q698
             obtain rfl : ad691 = ad698 := (by injection e698)
             obtain ⟨ce698, hce698, hMe698, hcc698⟩ := Kd.S_get HO_5.out [] (ji39) p698 (by exact q698)
             obtain ⟨ve698_0, rfl, ge698_0⟩ := hMe698; have hv698_0 := hcc698 0 _ rfl; rw [Nat.add_zero, show ((Kd.slice 3 (Kd.int .i64))).sz = 1 from rfl, Nat.mul_one] at hv698_0; replace hv698_0 := Option.some.inj (hv698_0.symm.trans hx698_0); rw [hv698_0] at ge698_0; have HL698_0 := am (show Kd.R (Kd.int .i64) 3 _ _ _ _ (rd_L10 x5_5 (ji39)) from ge698_0); clear hv698_0 ge698_0; have HX698_0 := am hx698_0; clear hcc698 hce698; have HR698_0 := am hi698_0; have HC698_0 := am hl698_0; clear hi698_0 hl698_0; replace p698 := eq_true p698; replace q698 := eq_true q698
             have p699 : 0 ≤ ((ji42) : Int) := of_decide_eq_true ad
             have q699 : (ji42) < ((rd_L10 x5_5 (ji39)).length : Int) := of_decide_eq_true ad
             obtain ⟨ad699, e699, hx699_0⟩ := Kd.at_int b26_ (ji42) p699 q699; cases e699; replace p699 := eq_true p699; replace q699 := eq_true q699
             have p46 : 0 ≤ ((ji39) : Int) := of_decide_eq_true ad
             have q46 : (ji39) < (a0.size : Int) := of_decide_eq_true ad
             have hx46 := bt_at a0 (ji39); replace p46 := eq_true p46; replace q46 := eq_true q46
             have p48 : 0 ≤ ((ji42) : Int) := of_decide_eq_true ad
             have q48 : (ji42) < (a1.size : Int) := of_decide_eq_true ad
             have hx48 := bt_at a1 (ji42); replace p48 := eq_true p48; replace q48 := eq_true q48
             go_upto_if 85 with (fail)
             repeat (go_quiet (fail); go_upto_if 85 with (fail))
             go_cut [10] (fun v10 wc => ∃ (kq : Nat) (x10_48 : Int), v10 = .int .i64 x10_48 ∧ Aside0 (impl_Far.j5 kq a0 a1 x5_5 x8_4 x9_5 x10_48 = some r) ∧ Aside0 (kq ≤ k5) ∧ Aside0 (Kd.S (Kd.slice 3 (Kd.int .i64)) 99 wc w.heap.size (fun _ => True) (.slice (some ad691) x5_5.length co13) x5_5) ∧ Aside0 (Kd.C (Kd.int .i64) wc (some ad699) (rd_L10 x5_5 (ji39)).length (rd_L10 x5_5 (ji39))) ∧ Aside0 (Below w.heap.size w wc))
             case first =>
              have H := HC49.out; clear HC49
              by_cases c50 : (bt a0 (ji39)) = (bt a1 (ji42))
              ·rw [if_pos c50] at H
               have c50b0 : ((bt a0 (ji39)) == (bt a1 (ji42))) = true := beq_iff_eq.mpr c50
               have c50b1 : ((bt a0 (ji39)) != (bt a1 (ji42))) = false := bne_eq_false_iff_eq.mpr c50
               clear c50
               (skip)
               have H' := am H
               clear H; go_wp2
               go_meet
               case rel => exact ⟨_, (rd (rd_L10 x5_5 (ji39)) (ji42)), (by rfl), H', ⟨by have := HJ2.out; have := HK2.out; have := HK3.out; have := HK4.out; have := HK5.out; omega⟩, ⟨b16_⟩, ⟨b26_⟩, ⟨bel⟩⟩
              rw [if_neg c50] at H
              have c50b0 : ((bt a0 (ji39)) == (bt a1 (ji42))) = false := beq_eq_false_iff_ne.mpr c50
              have c50b1 : ((bt a0 (ji39)) != (bt a1 (ji42))) = true := bne_iff_ne.mpr c50
              (skip)
              have H' := am H
              clear H; go_wp2
              go_meet
              case rel => exact ⟨_, (wrap64 ((rd (rd_L10 x5_5 (ji39)) (ji42)) + 1)), (by rfl), H', ⟨by have := HJ2.out; have := HK2.out; have := HK3.out; have := HK4.out; have := HK5.out; omega⟩, ⟨b16_⟩, ⟨b26_⟩, ⟨bel⟩⟩
             case rest =>
              clear HC49; clear c38b0 c40b0 c41b0 c43b0 c44b0 c45b0 p46 q46 hx46 c47b0 p48 q48 hx48 hx698_0 hx699_0 p698 p699 q698 q699; obtain ⟨kq, x10_48, rfl, HA, HJ48, HO_5, HR698_0, HB⟩ := hcut
              cases kq with
              | zero => exact absurd HA.out (by simp [impl_Far.j5])
              | succ kj48 =>
               have H := HA.out; clear HA; simp only [impl_Far.j5] at H
               obtain ⟨ji51, hji51⟩ : ∃ j_ : Int, (wrap64 (x8_4 - 1)) = j_ := ⟨_, rfl⟩
               rw [hji51] at H
               have hji51w : (IntKind.i64.wrap (x8_4 - 1)) = ji51 := (i64_w _).trans hji51
               clear hji39w; replace H := it H; obtain ⟨c52b0, H⟩ := H; replace H := ip H; obtain ⟨c53, H⟩ := H; have c53b0 := decide_eq_true c53
               have c53b8 := c53b0
               clear c53; replace H := it H; obtain ⟨c54b0, H⟩ := H; replace H := ip H; obtain ⟨c55, H⟩ := H; have c55b0 := decide_eq_true c55
               have c55b8 := c55b0
               clear c55; replace H := it H; obtain ⟨c56b0, H⟩ := H; replace H := ip H; obtain ⟨c57, H⟩ := H; have c57b0 := decide_eq_true c57
               have c57b8 := c57b0
               clear c57; obtain ⟨ji58, hji58⟩ : ∃ j_ : Int, (wrap64 (x9_5 - 1)) = j_ := ⟨_, rfl⟩
               rw [hji58] at H
               have hji58w : (IntKind.i64.wrap (x9_5 - 1)) = ji58 := (i64_w _).trans hji58
               clear hji42w; replace H := it H; obtain ⟨c59b0, H⟩ := H; replace H := ip H; obtain ⟨c60, H⟩ := H; have c60b0 := decide_eq_true c60
               have c60b8 := c60b0
               clear c60; obtain ⟨ji61, hji61⟩ : ∃ j_ : Int, (mn x10_48 (wrap64 ((rd (rd_L10 x5_5 (ji51)) x9_5) + 1))) = j_ := ⟨_, rfl⟩
               rw [hji61] at H
               have hji61_ : (if (wrap64 ((rd (rd_L10 x5_5 (ji51)) x9_5) + 1)) < x10_48 then (wrap64 ((rd (rd_L10 x5_5 (ji51)) x9_5) + 1)) else x10_48) = ji61 := hji61
               obtain ⟨ji62, hji62⟩ : ∃ j_ : Int, (mn (ji61) (wrap64 ((rd (rd_L10 x5_5 x8_4) (ji58)) + 1))) = j_ := ⟨_, rfl⟩
               rw [hji62] at H
               have hji62_ : (if (wrap64 ((rd (rd_L10 x5_5 x8_4) (ji58)) + 1)) < (ji61) then (wrap64 ((rd (rd_L10 x5_5 x8_4) (ji58)) + 1)) else (ji61)) = ji62 := hji62
               have HC63 := am H; clear H
               have p700 : 0 ≤ ((ji51) : Int) := of_decide_eq_true ad
               have q700 : (ji51) < (x5_5.length : Int) := of_decide_eq_true ad
               obtain ⟨ad700, A700_0, c700_0, e700, hx700_0, hl700_0, hi700_0⟩ := at_L10 (Kd.S_reads' HO_5.out).2.2 (ji51) p700 q700
               obtain rfl : ad691 = ad700 := (by injection e700)
               obtain ⟨ce700, hce700, hMe700, hcc700⟩ := Kd.S_get HO_5.out [] (ji51) p700 (by exact q700)
               obtain ⟨ve700_0, rfl, ge700_0⟩ := hMe700; have hv700_0 := hcc700 0 _ rfl; rw [Nat.add_zero, show ((Kd.slice 3 (Kd.int .i64))).sz = 1 from rfl, Nat.mul_one] at hv700_0; replace hv700_0 := Option.some.inj (hv700_0.symm.trans hx700_0); rw [hv700_0] at ge700_0; have HL700_0 := am (show Kd.R (Kd.int .i64) 3 _ _ _ _ (rd_L10 x5_5 (ji51)) from ge700_0); clear hv700_0 ge700_0; have HX700_0 := am hx700_0; clear hcc700 hce700; have HR700_0 := am hi700_0; have HC700_0 := am hl700_0; clear hi700_0 hl700_0; replace p700 := eq_true p700; replace q700 := eq_true q700
               have p701 : 0 ≤ (x9_5 : Int) := of_decide_eq_true ad
               have q701 : x9_5 < ((rd_L10 x5_5 (ji51)).length : Int) := of_decide_eq_true ad
               obtain ⟨ad701, e701, hx701_0⟩ := Kd.at_int b31_ x9_5 p701 q701; cases e701; replace p701 := eq_true p701; replace q701 := eq_true q701
               have p702 : 0 ≤ (x8_4 : Int) := of_decide_eq_true ad
               have q702 : x8_4 < (x5_5.length : Int) := of_decide_eq_true ad
               obtain ⟨ad702, A702_0, c702_0, e702, hx702_0, hl702_0, hi702_0⟩ := at_L10 (Kd.S_reads' HO_5.out).2.2 x8_4 p702 q702
               obtain rfl : ad691 = ad702 := (by injection e702)
               obtain ⟨ce702, hce702, hMe702, hcc702⟩ := Kd.S_get HO_5.out [] x8_4 p702 (by exact q702)
               obtain ⟨ve702_0, rfl, ge702_0⟩ := hMe702; have hv702_0 := hcc702 0 _ rfl; rw [Nat.add_zero, show ((Kd.slice 3 (Kd.int .i64))).sz = 1 from rfl, Nat.mul_one] at hv702_0; replace hv702_0 := Option.some.inj (hv702_0.symm.trans hx702_0); rw [hv702_0] at ge702_0; have HL702_0 := am (show Kd.R (Kd.int .i64) 3 _ _ _ _ (rd_L10 x5_5 x8_4) from ge702_0); clear hv702_0 ge702_0; have HX702_0 := am hx702_0; clear hcc702 hce702; have HR702_0 := am hi702_0; have HC702_0 := am hl702_0; clear hi702_0 hl702_0; replace p702 := eq_true p702; replace q702 := eq_true q702
               have p703 : 0 ≤ ((ji58) : Int) := of_decide_eq_true ad
               have q703 : (ji58) < ((rd_L10 x5_5 x8_4).length : Int) := of_decide_eq_true ad
               obtain ⟨ad703, e703, hx703_0⟩ := Kd.at_int b32_ (ji58) p703 q703; cases e703; replace p703 := eq_true p703; replace q703 := eq_true q703
               go_upto_region 25 with (fail)
               repeat (go_quiet (fail); go_upto_region 25 with (fail))
               go_cut [135] (fun v135 wc => ∃ (kq : Nat) (x135_62 : Bool), v135 = .bool x135_62 ∧ Aside0 (impl_Far.j6 kq a0 a1 x5_5 x8_4 x9_5 ji62 x135_62 = some r) ∧ Aside0 (kq ≤ kj48) ∧ Aside0 (Kd.S (Kd.slice 3 (Kd.int .i64)) 99 wc w.heap.size (fun _ => True) (.slice (some ad691) x5_5.length co13) x5_5) ∧ Aside0 (Kd.C (Kd.int .i64) wc (some ad699) (rd_L10 x5_5 (ji39)).length (rd_L10 x5_5 (ji39))) ∧ Aside0 (Kd.C (Kd.int .i64) wc (some ad701) (rd_L10 x5_5 (ji51)).length (rd_L10 x5_5 (ji51))) ∧ Aside0 (Kd.C (Kd.int .i64) wc (some ad703) (rd_L10 x5_5 x8_4).length (rd_L10 x5_5 x8_4)) ∧ Aside0 (Below w.heap.size w wc))
               case first =>
                have H := HC63.out; clear HC63
                by_cases c64 : x8_4 > 1
                ·rw [if_pos c64] at H; have c64b0 := decide_eq_true c64; clear c64
                 (skip)
                 by_cases c65 : x9_5 > 1
                 ·rw [if_pos c65] at H; have c65b0 := decide_eq_true c65; clear c65
                  replace H := it H; obtain ⟨c66b0, H⟩ := H; obtain ⟨ji68, hji68⟩ : ∃ j_ : Int, (wrap64 (x9_5 - 2)) = j_ := ⟨_, rfl⟩
                  rw [hji68] at H
                  have hji68w : (IntKind.i64.wrap (x9_5 - 2)) = ji68 := (i64_w _).trans hji68
                  replace H := it H; obtain ⟨c69b0, H⟩ := H; replace H := it H; obtain ⟨c70b0, H⟩ := H
                  by_cases c72 : (bt a0 (ji51)) = (bt a1 (ji68))
                  ·rw [if_pos c72] at H
                   have c72b0 : ((bt a0 (ji51)) == (bt a1 (ji68))) = true := beq_iff_eq.mpr c72
                   have c72b1 : ((bt a0 (ji51)) != (bt a1 (ji68))) = false := bne_eq_false_iff_eq.mpr c72
                   clear c72; obtain ⟨ji73, hji73⟩ : ∃ j_ : Int, (wrap64 (x8_4 - 2)) = j_ := ⟨_, rfl⟩
                   rw [hji73] at H
                   have hji73w : (IntKind.i64.wrap (x8_4 - 2)) = ji73 := (i64_w _).trans hji73
                   replace H := it H; obtain ⟨c74b0, H⟩ := H; replace H := it H; obtain ⟨c75b0, H⟩ := H; replace H := it H; obtain ⟨c77b0, H⟩ := H
                   have H' := am H
                   clear H
                   have p67 : 0 ≤ ((ji51) : Int) := of_decide_eq_true ad
                   have q67 : (ji51) < (a0.size : Int) := of_decide_eq_true ad
                   have hx67 := bt_at a0 (ji51); replace p67 := eq_true p67; replace q67 := eq_true q67
                   have p71 : 0 ≤ ((ji68) : Int) := of_decide_eq_true ad
                   have q71 : (ji68) < (a1.size : Int) := of_decide_eq_true ad
                   have hx71 := bt_at a1 (ji68); replace p71 := eq_true p71; replace q71 := eq_true q71
                   have p76 : 0 ≤ ((ji73) : Int) := of_decide_eq_true ad
                   have q76 : (ji73) < (a0.size : Int) := of_decide_eq_true ad
                   have hx76 := bt_at a0 (ji73); replace p76 := eq_true p76; replace q76 := eq_true q76
                   have p78 : 0 ≤ ((ji58) : Int) := of_decide_eq_true ad
                   have q78 : (ji58) < (a1.size : Int) := of_decide_eq_true ad
                   have hx78 := bt_at a1 (ji58); replace p78 := eq_true p78; replace q78 := eq_true q78; go_wp2
                   repeat (go_quiet (fail); try go_wp2)
                   go_meet
                   case rel => exact ⟨_, (((bt a0 (ji73)) == (bt a1 (ji58)))), (by rfl), H', ⟨b61_⟩, ⟨b16_⟩, ⟨b26_⟩, ⟨b31_⟩, ⟨b32_⟩, ⟨bel⟩⟩
                  rw [if_neg c72] at H
                  have c72b0 : ((bt a0 (ji51)) == (bt a1 (ji68))) = false := beq_eq_false_iff_ne.mpr c72
                  have c72b1 : ((bt a0 (ji51)) != (bt a1 (ji68))) = true := bne_iff_ne.mpr c72
                  have H' := am H
                  clear H
                  have p67 : 0 ≤ ((ji51) : Int) := of_decide_eq_true ad
                  have q67 : (ji51) < (a0.size : Int) := of_decide_eq_true ad
                  have hx67 := bt_at a0 (ji51); replace p67 := eq_true p67; replace q67 := eq_true q67
                  have p71 : 0 ≤ ((ji68) : Int) := of_decide_eq_true ad
                  have q71 : (ji68) < (a1.size : Int) := of_decide_eq_true ad
                  have hx71 := bt_at a1 (ji68); replace p71 := eq_true p71; replace q71 := eq_true q71; go_wp2
                  repeat (go_quiet (fail); try go_wp2)
                  go_meet
                  case rel => exact ⟨_, (false), sq, H', ⟨b61_⟩, ⟨b16_⟩, ⟨b26_⟩, ⟨b31_⟩, ⟨b32_⟩, ⟨bel⟩⟩
                 rw [if_neg c65] at H; have c65b0 := decide_eq_false c65; clear c65
                 have H' := am H
                 clear H; go_wp2
                 repeat (go_quiet (fail); try go_wp2)
                 go_meet
                 case rel => exact ⟨_, (false), sq, H', ⟨b61_⟩, ⟨b16_⟩, ⟨b26_⟩, ⟨b31_⟩, ⟨b32_⟩, ⟨bel⟩⟩
                rw [if_neg c64] at H; have c64b0 := decide_eq_false c64; clear c64
                (skip)
                have H' := am H
                clear H; go_wp2
                repeat (go_quiet (fail); try go_wp2)
                go_meet
                case rel => exact ⟨_, (false), sq, H', ⟨b61_⟩, ⟨b16_⟩, ⟨b26_⟩, ⟨b31_⟩, ⟨b32_⟩, ⟨bel⟩⟩
               case rest =>
                clear HC63; clear c52b0 c53b0 c54b0 c55b0 c56b0 c57b0 c59b0 c60b0 hx700_0 hx701_0 hx702_0 hx703_0 p700 p701 p702 p703 q700 q701 q702 q703; obtain ⟨kq, x135_62, rfl, HA, HJ62, HO_5, HR698_0, HR700_0, HR702_0, HB⟩ := hcut
                cases kq with
                | zero => exact absurd HA.out (by simp [impl_Far.j6])
                | succ kj62 =>
                 have H := HA.out; clear HA; simp only [impl_Far.j6] at H
                 by_cases c79 : x135_62 = true
                 ·subst c79
                  rw [if_pos rfl] at H
                  obtain ⟨ji80, hji80⟩ : ∃ j_ : Int, (wrap64 (x8_4 - 2)) = j_ := ⟨_, rfl⟩
                  rw [hji80] at H
                  have hji80w : (IntKind.i64.wrap (x8_4 - 2)) = ji80 := (i64_w _).trans hji80
                  replace H := it H; obtain ⟨c81b0, H⟩ := H; replace H := ip H; obtain ⟨c82, H⟩ := H; have c82b0 := decide_eq_true c82
                  have c82b8 := c82b0
                  clear c82; obtain ⟨ji83, hji83⟩ : ∃ j_ : Int, (wrap64 (x9_5 - 2)) = j_ := ⟨_, rfl⟩
                  rw [hji83] at H
                  have hji83w : (IntKind.i64.wrap (x9_5 - 2)) = ji83 := (i64_w _).trans hji83
                  replace H := it H; obtain ⟨c84b0, H⟩ := H; replace H := ip H; obtain ⟨c85, H⟩ := H; have c85b0 := decide_eq_true c85
                  have c85b8 := c85b0
                  clear c85; obtain ⟨ji86, hji86⟩ : ∃ j_ : Int, (mn ji62 (wrap64 ((rd (rd_L10 x5_5 (ji80)) (ji83)) + 1))) = j_ := ⟨_, rfl⟩
                  rw [hji86] at H
                  have hji86_ : (if (wrap64 ((rd (rd_L10 x5_5 (ji80)) (ji83)) + 1)) < ji62 then (wrap64 ((rd (rd_L10 x5_5 (ji80)) (ji83)) + 1)) else ji62) = ji86 := hji86
                  replace H := it H; obtain ⟨c87b0, H⟩ := H; replace H := ip H; obtain ⟨c88, H⟩ := H; have c88b0 := decide_eq_true c88
                  have c88b8 := c88b0
                  clear c88; replace H := it H; obtain ⟨c89b0, H⟩ := H; replace H := ip H; obtain ⟨c90, H⟩ := H; have c90b0 := decide_eq_true c90
                  have c90b8 := c90b0
                  clear c90; obtain ⟨y707, hy707⟩ : ∃ y_ : List Int, y_ = ((rd_L10 x5_5 x8_4).set (x9_5 : Int).toNat (ji86)) := ⟨_, rfl⟩
                  rw [← hy707] at H
                  have Ny707 := am hy707; clear hy707; obtain ⟨y709, hy709⟩ : ∃ y_ : List (List Int), y_ = (x5_5.set (x8_4 : Int).toNat y707) := ⟨_, rfl⟩
                  rw [← hy709] at H
                  have Ny709 := am hy709; clear hy709
                  have H' := am H
                  clear H
                  have p704 : 0 ≤ ((ji80) : Int) := of_decide_eq_true ad
                  have q704 : (ji80) < (x5_5.length : Int) := of_decide_eq_true ad
                  obtain ⟨ad704, A704_0, c704_0, e704, hx704_0, hl704_0, hi704_0⟩ := at_L10 (Kd.S_reads' HO_5.out).2.2 (ji80) p704 q704
                  obtain rfl : ad691 = ad704 := (by injection e704)
                  obtain ⟨ce704, hce704, hMe704, hcc704⟩ := Kd.S_get HO_5.out [] (ji80) p704 (by exact q704)
                  obtain ⟨ve704_0, rfl, ge704_0⟩ := hMe704; have hv704_0 := hcc704 0 _ rfl; rw [Nat.add_zero, show ((Kd.slice 3 (Kd.int .i64))).sz = 1 from rfl, Nat.mul_one] at hv704_0; replace hv704_0 := Option.some.inj (hv704_0.symm.trans hx704_0); rw [hv704_0] at ge704_0; have HL704_0 := am (show Kd.R (Kd.int .i64) 3 _ _ _ _ (rd_L10 x5_5 (ji80)) from ge704_0); clear hv704_0 ge704_0; have HX704_0 := am hx704_0; clear hcc704 hce704; have HR704_0 := am hi704_0; have HC704_0 := am hl704_0; clear hi704_0 hl704_0; replace p704 := eq_true p704; replace q704 := eq_true q704
                  have p705 : 0 ≤ ((ji83) : Int) := of_decide_eq_true ad
                  have q705 : (ji83) < ((rd_L10 x5_5 (ji80)).length : Int) := of_decide_eq_true ad
                  obtain ⟨ad705, e705, hx705_0⟩ := Kd.at_int (by repeat (with_reducible exact HR704_0.out)) (ji83) p705 q705
                  cases e705; replace p705 := eq_true p705; replace q705 := eq_true q705
                  have p706 : 0 ≤ (x8_4 : Int) := of_decide_eq_true ad
                  have q706 : x8_4 < (x5_5.length : Int) := of_decide_eq_true ad
                  obtain ⟨ad706, A706_0, c706_0, e706, hx706_0, hl706_0, hi706_0⟩ := at_L10 (Kd.S_reads' HO_5.out).2.2 x8_4 p706 q706
                  obtain rfl : ad691 = ad706 := (by injection e706)
                  obtain ⟨ce706, hce706, hMe706, hcc706⟩ := Kd.S_get HO_5.out [] x8_4 p706 (by exact q706)
                  obtain ⟨ve706_0, rfl, ge706_0⟩ := hMe706; have hv706_0 := hcc706 0 _ rfl; rw [Nat.add_zero, show ((Kd.slice 3 (Kd.int .i64))).sz = 1 from rfl, Nat.mul_one] at hv706_0; replace hv706_0 := Option.some.inj (hv706_0.symm.trans hx706_0); rw [hv706_0] at ge706_0; have HL706_0 := am (show Kd.R (Kd.int .i64) 3 _ _ _ _ (rd_L10 x5_5 x8_4) from ge706_0); clear hv706_0 ge706_0; have HX706_0 := am hx706_0; clear hcc706 hce706; have HR706_0 := am hi706_0; have HC706_0 := am hl706_0; clear hi706_0 hl706_0; replace p706 := eq_true p706; replace q706 := eq_true q706
                  have p91 : 0 ≤ (x9_5 : Int) := of_decide_eq_true ad
                  have q91 : (x9_5 : Int) < (((rd_L10 x5_5 x8_4).length : Int) : Int) := of_decide_eq_true ad
                  obtain ⟨go91, co91, eo91, gb91, gl91, cl91, HG91⟩ := Kd.R_form HL706_0.out (by omega)
                  (cases eo91)
                  have GB91 := Aside0.mk gb91; have GG91 := am HG91; clear gb91 gl91 HG91; obtain ⟨hx91_0, hf91_0⟩ := Kd.R_celln 0 HL706_0.out (x9_5 : Int) p91 q91; replace p91 := eq_true p91; replace q91 := eq_true q91
                  have hq92 : (x8_4 : Int) < (x5_5.length : Int) := b21_
                  obtain ⟨oki92, ce92, hcl92, hM92, hcc92, hok92, hbk92⟩ := Kd.S_borrow HO_5.out [] (x8_4 : Int) (of_decide_eq_true ad) hq92; obtain ⟨ve92_0, rfl, ge92_0⟩ := hM92; have hv92 := hcc92 0 _ rfl; rw [Nat.add_zero, show ((Kd.slice 3 (Kd.int .i64))).sz = 1 from rfl, Nat.mul_one] at hv92; replace hv92 := Option.some.inj (hv92.symm.trans HX706_0.out); subst hv92; clear hcc92 hcl92; replace ge92_0 := (show Kd.R (Kd.int .i64) 3 _ _ _ _ (rd_L10 x5_5 x8_4) from ge92_0); have HP92 := Kd.R_putg ge92_0 (x9_5 : Int) ji86
                  go_wp2_with ((with_reducible refine gate_store (t := 3) (p := 154) rfl ?_); refine store_event (t := 3) (p := 154) (v := ?vo_w93) (w1 := (wc.setCell ⟨go91, (x9_5 : Int).toNat, none⟩ (.int .i64 ji86))) ?hg ?ho ?hn ?hr ?_; (case ho => rfl); (case hg => rfl); (case hn => rfl); (case hr => (go_simp; done)); intro w93 hw; have hg : wc.grownBy w93 (some go91) := (by rw [hw]; exact HP92.2); have hz_ : Kd.R (Kd.int .i64) 3 w93 w.heap.size oki92 (.slice (some ⟨go91, 0, none⟩) (rd_L10 x5_5 x8_4).length c706_0) y707 := (by rw [hw, Ny707.out]; exact HP92.1); have hp_ : Kd.S (Kd.slice 3 (Kd.int .i64)) 99 w93 w.heap.size (fun _ => True) (.slice (some ad691) x5_5.length co13) y709 := b80_; have hm_ := Kd.R_mono hz_ hok92; clear HP92 hbk92; replace HO_5 := am (hp_); replace HB := am ((by rw [hw]; exact below_set (HB.out) GB91.out : Below w.heap.size w w93)); have HL716 := am (hm_); have HC708 := am ((Kd.R_reads' hm_).2.1); clear HL704_0 HL706_0; clear hg hw hp_ hz_ hm_ hok92)
                  simp only [← hl5_5]
                  go_roundg kj62
                  case measure => have := HJ2.out; have := HK2.out; have := HK3.out; have := HK4.out; have := HK5.out; have := HJ48.out; have := HJ62.out; omega
                  case rel => exact ⟨(y709), (wrap64 (x9_5 + 1)), sq, H', ⟨b104_⟩, ⟨b16_⟩, ⟨bel⟩⟩
                 replace c79 := Bool.eq_false_iff.mpr c79; subst c79
                 rw [if_neg Bool.false_ne_true] at H; replace H := it H; obtain ⟨c94b0, H⟩ := H; replace H := ip H; obtain ⟨c95, H⟩ := H; have c95b0 := decide_eq_true c95
                 have c95b8 := c95b0
                 clear c95; replace H := it H; obtain ⟨c96b0, H⟩ := H; replace H := ip H; obtain ⟨c97, H⟩ := H; have c97b0 := decide_eq_true c97
                 have c97b8 := c97b0
                 clear c97; obtain ⟨y711, hy711⟩ : ∃ y_ : List Int, y_ = ((rd_L10 x5_5 x8_4).set (x9_5 : Int).toNat ji62) := ⟨_, rfl⟩
                 rw [← hy711] at H
                 have Ny711 := am hy711; clear hy711; obtain ⟨y713, hy713⟩ : ∃ y_ : List (List Int), y_ = (x5_5.set (x8_4 : Int).toNat y711) := ⟨_, rfl⟩
                 rw [← hy713] at H
                 have Ny713 := am hy713; clear hy713
                 have H' := am H
                 clear H
                 have p710 : 0 ≤ (x8_4 : Int) := of_decide_eq_true ad
                 have q710 : x8_4 < (x5_5.length : Int) := of_decide_eq_true ad
                 obtain ⟨ad710, A710_0, c710_0, e710, hx710_0, hl710_0, hi710_0⟩ := at_L10 (Kd.S_reads' HO_5.out).2.2 x8_4 p710 q710
                 obtain rfl : ad691 = ad710 := (by injection e710)
                 obtain ⟨ce710, hce710, hMe710, hcc710⟩ := Kd.S_get HO_5.out [] x8_4 p710 (by exact q710)
                 obtain ⟨ve710_0, rfl, ge710_0⟩ := hMe710; have hv710_0 := hcc710 0 _ rfl; rw [Nat.add_zero, show ((Kd.slice 3 (Kd.int .i64))).sz = 1 from rfl, Nat.mul_one] at hv710_0; replace hv710_0 := Option.some.inj (hv710_0.symm.trans hx710_0); rw [hv710_0] at ge710_0; have HL710_0 := am (show Kd.R (Kd.int .i64) 3 _ _ _ _ (rd_L10 x5_5 x8_4) from ge710_0); clear hv710_0 ge710_0; have HX710_0 := am hx710_0; clear hcc710 hce710; have HR710_0 := am hi710_0; have HC710_0 := am hl710_0; clear hi710_0 hl710_0; replace p710 := eq_true p710; replace q710 := eq_true q710
                 have p98 : 0 ≤ (x9_5 : Int) := of_decide_eq_true ad
                 have q98 : (x9_5 : Int) < (((rd_L10 x5_5 x8_4).length : Int) : Int) := of_decide_eq_true ad
                 obtain ⟨go98, co98, eo98, gb98, gl98, cl98, HG98⟩ := Kd.R_form HL710_0.out (by omega)
                 (cases eo98)
                 have GB98 := Aside0.mk gb98; have GG98 := am HG98; clear gb98 gl98 HG98; obtain ⟨hx98_0, hf98_0⟩ := Kd.R_celln 0 HL710_0.out (x9_5 : Int) p98 q98; replace p98 := eq_true p98; replace q98 := eq_true q98
                 have hq99 : (x8_4 : Int) < (x5_5.length : Int) := b21_
                 obtain ⟨oki99, ce99, hcl99, hM99, hcc99, hok99, hbk99⟩ := Kd.S_borrow HO_5.out [] (x8_4 : Int) (of_decide_eq_true ad) hq99; obtain ⟨ve99_0, rfl, ge99_0⟩ := hM99; have hv99 := hcc99 0 _ rfl; rw [Nat.add_zero, show ((Kd.slice 3 (Kd.int .i64))).sz = 1 from rfl, Nat.mul_one] at hv99; replace hv99 := Option.some.inj (hv99.symm.trans HX710_0.out); subst hv99; clear hcc99 hcl99; replace ge99_0 := (show Kd.R (Kd.int .i64) 3 _ _ _ _ (rd_L10 x5_5 x8_4) from ge99_0); have HP99 := Kd.R_putg ge99_0 (x9_5 : Int) ji62
                 go_wp2_with ((with_reducible refine gate_store (t := 3) (p := 154) rfl ?_); refine store_event (t := 3) (p := 154) (v := ?vo_w100) (w1 := (wc.setCell ⟨go98, (x9_5 : Int).toNat, none⟩ (.int .i64 ji62))) ?hg ?ho ?hn ?hr ?_; (case ho => rfl); (case hg => rfl); (case hn => rfl); (case hr => (go_simp; done)); intro w100 hw; have hg : wc.grownBy w100 (some go98) := (by rw [hw]; exact HP99.2); have hz_ : Kd.R (Kd.int .i64) 3 w100 w.heap.size oki99 (.slice (some ⟨go98, 0, none⟩) (rd_L10 x5_5 x8_4).length c710_0) y711 := (by rw [hw, Ny711.out]; exact HP99.1); have hp_ : Kd.S (Kd.slice 3 (Kd.int .i64)) 99 w100 w.heap.size (fun _ => True) (.slice (some ad691) x5_5.length co13) y713 := b81_; have hm_ := Kd.R_mono hz_ hok99; clear HP99 hbk99; replace HO_5 := am (hp_); replace HB := am ((by rw [hw]; exact below_set (HB.out) GB98.out : Below w.heap.size w w100)); have HL717 := am (hm_); have HC712 := am ((Kd.R_reads' hm_).2.1); clear HL710_0; clear hg hw hp_ hz_ hm_ hok99)
                 simp only [← hl5_5]
                 go_roundg kj62
                 case measure => have := HJ2.out; have := HK2.out; have := HK3.out; have := HK4.out; have := HK5.out; have := HJ48.out; have := HJ62.out; omega
                 case rel => exact ⟨(y713), (wrap64 (x9_5 + 1)), sq, H', ⟨b104_⟩, ⟨b16_⟩, ⟨bel⟩⟩
            rw [if_neg c38] at H; have c38b0 := decide_eq_false c38; clear c38
            have H' := am H
            clear H; go_wp2
            simp only [← hl5_4, ← hl5_5]
            go_roundg k5
            case measure => have := HJ2.out; have := HK2.out; have := HK3.out; have := HK4.out; have := HK5.out; omega
            case rel => exact ⟨(x5_5), (wrap64 (x8_4 + 1)), sq, H', ⟨by have := HJ2.out; have := HK2.out; have := HK3.out; have := HK4.out; have := HK5.out; omega⟩, ⟨b16_⟩, ⟨bel⟩⟩
         rw [if_neg c37] at H; have c37b0 := decide_eq_false c37; clear c37; replace H := ip H; obtain ⟨c101, H⟩ := H; have c101b0 := decide_eq_true c101
         have c101b1 : decide (0 ≤ a0.size) = true := decide_eq_true (by omega)
         clear c101; replace H := ip H; obtain ⟨c102, H⟩ := H; have c102b0 := decide_eq_true c102
         have c102b8 := c102b0
         have c102b1 : decide (a0.size < x5_4.length) = true := decide_eq_true (Int.ofNat_lt.mp c102)
         clear c102; replace H := ip H; obtain ⟨c103, H⟩ := H; have c103b0 := decide_eq_true c103
         have c103b1 : decide (0 ≤ a1.size) = true := decide_eq_true (by omega)
         clear c103; replace H := ip H; obtain ⟨c104, H⟩ := H; have c104b0 := decide_eq_true c104
         have c104b8 := c104b0
         have c104b1 : decide (a1.size < (rd_L10 x5_4 (a0.size : Int)).length) = true := decide_eq_true (Int.ofNat_lt.mp c104)
         clear c104; obtain rfl := Option.some.inj H
         have p696 : 0 ≤ ((a0.size : Int) : Int) := of_decide_eq_true ad
         have q696 : (a0.size : Int) < (x5_4.length : Int) := of_decide_eq_true ad
         obtain ⟨ad696, A696_0, c696_0, e696, hx696_0, hl696_0, hi696_0⟩ := at_L10 (Kd.S_reads' HO_5.out).2.2 (a0.size : Int) p696 q696
         obtain rfl : ad691 = ad696 := (by injection e696)
         obtain ⟨ce696, hce696, hMe696, hcc696⟩ := Kd.S_get HO_5.out [] (a0.size : Int) p696 (by exact q696)
         obtain ⟨ve696_0, rfl, ge696_0⟩ := hMe696; have hv696_0 := hcc696 0 _ rfl; rw [Nat.add_zero, show ((Kd.slice 3 (Kd.int .i64))).sz = 1 from rfl, Nat.mul_one] at hv696_0; replace hv696_0 := Option.some.inj (hv696_0.symm.trans hx696_0); rw [hv696_0] at ge696_0; have HL696_0 := am (show Kd.R (Kd.int .i64) 3 _ _ _ _ (rd_L10 x5_4 (a0.size : Int)) from ge696_0); clear hv696_0 ge696_0; have HX696_0 := am hx696_0; clear hcc696 hce696; have HR696_0 := am hi696_0; have HC696_0 := am hl696_0; clear hi696_0 hl696_0; replace p696 := eq_true p696; replace q696 := eq_true q696
         (have qn696 : (a0.size < x5_4.length) = True := eq_true (by have h_ := of_eq_true q696; omega))
         simp only [Int.toNat_natCast] at hx696_0
         have p697 : 0 ≤ ((a1.size : Int) : Int) := of_decide_eq_true ad
         have q697 : (a1.size : Int) < ((rd_L10 x5_4 (a0.size : Int)).length : Int) := of_decide_eq_true ad
         obtain ⟨ad697, e697, hx697_0⟩ := Kd.at_int (by repeat (with_reducible exact HR696_0.out)) (a1.size : Int) p697 q697
         cases e697; replace p697 := eq_true p697; replace q697 := eq_true q697
         (have qn697 : (a1.size < (rd_L10 x5_4 (a0.size : Int)).length) = True := eq_true (by have h_ := of_eq_true q697; omega))
         simp only [Int.toNat_natCast] at hx697_0
         go_wp2
         go_ret
         exact ⟨by rfl, bel⟩
-- shrunk

/-! ### laws_mdHas: function 30 -/
def laws_mdHas.l0 : Nat → List ByteArray → ByteArray → Int → Option (Bool)
 | 0, _, _, _ => none
 | k + 1, x0, x1, x5 => if x5 < (x0.length : Int) then (if 0 ≤ x5 then (if (rdOf ByteArray.empty x0 x5).toList = x1.toList then (some true) else (laws_mdHas.l0 k x0 x1 (wrap64 (x5 + 1)))) else (none)) else (some false)
def laws_mdHas.f (k : Nat) (l0 : List ByteArray) (a1 : ByteArray) : Option (Bool) := laws_mdHas.l0 k l0 a1 0
theorem laws_mdHas.calls (k : Nat) (A0 : Option Addr) (c0 : Nat) (l0 : List ByteArray) (a1 : ByteArray) (r : Bool) (w : World) (hr0 : Kd.C Kd.string w A0 l0.length l0) (hc0 : l0.length ≤ c0) (h : laws_mdHas.f k l0 a1 = some r) :
  Calls Try.prog 30 #[.slice A0 l0.length c0, .string a1] w fun e w' => e = .returned (.bool r) ∧ Drawn0 w w' := by
 have HR0 := am hr0; have HC0 := am hc0; clear hr0 hc0
 have H := h; unfold laws_mdHas.f at H
 clear h
 have H' := am H
 clear H; go_enter Try.func30, Try.ntmps30; go_wp2
 go_loopg [5] k (fun kq v5 w' => ∃ (x5_1 : Int), v5 = .int .i64 x5_1 ∧ Aside0 (laws_mdHas.l0 kq l0 a1 x5_1 = some r) ∧ Aside0 (kq ≤ k) ∧ Drawn0 w w')
 case atStart => exact ⟨(0), sq, H', ⟨Nat.le_refl _⟩, dr⟩
 case round =>
  clear H'; obtain ⟨x5_1, rfl, HA, HK1, ⟨m1, rfl⟩⟩ := hrel
  cases gk with
  | zero => exact absurd HA.out (by simp [laws_mdHas.l0])
  | succ k1 =>
   have H := HA.out; clear HA; simp only [laws_mdHas.l0] at H
   by_cases c3 : x5_1 < (l0.length : Int)
   ·rw [if_pos c3] at H; have c3b0 := decide_eq_true c3; clear c3
    replace H := it H; obtain ⟨c4b0, H⟩ := H
    by_cases c5 : (rdOf ByteArray.empty l0 x5_1).toList = a1.toList
    ·rw [if_pos c5] at H
     have c5b0 : ((rdOf ByteArray.empty l0 x5_1).toList == a1.toList) = true := beq_iff_eq.mpr c5
     have c5b1 : ((rdOf ByteArray.empty l0 x5_1).toList != a1.toList) = false := bne_eq_false_iff_eq.mpr c5
     clear c5; obtain rfl := Option.some.inj H
     have p718 : 0 ≤ (x5_1 : Int) := of_decide_eq_true ad
     have q718 : x5_1 < (l0.length : Int) := of_decide_eq_true ad
     obtain ⟨ad718, e718, hx718_0⟩ := Kd.at_string HR0.out x5_1 p718 q718; cases e718
     replace p718 := eq_true p718; replace q718 := eq_true q718; go_wp2; go_ret
     exact ⟨sq, dr⟩
    rw [if_neg c5] at H
    have c5b0 : ((rdOf ByteArray.empty l0 x5_1).toList == a1.toList) = false := beq_eq_false_iff_ne.mpr c5
    have c5b1 : ((rdOf ByteArray.empty l0 x5_1).toList != a1.toList) = true := bne_iff_ne.mpr c5
    have H' := am H
    clear H
    have p718 : 0 ≤ (x5_1 : Int) := of_decide_eq_true ad
    have q718 : x5_1 < (l0.length : Int) := of_decide_eq_true ad
    obtain ⟨ad718, e718, hx718_0⟩ := Kd.at_string HR0.out x5_1 p718 q718; cases e718
    replace p718 := eq_true p718; replace q718 := eq_true q718; go_wp2
    go_roundg k1
    case measure => have := HK1.out; omega
    case rel => exact ⟨(wrap64 (x5_1 + 1)), sq, H', ⟨b68_⟩, dr⟩
   rw [if_neg c3] at H; have c3b0 := decide_eq_false c3; clear c3; obtain rfl := Option.some.inj H; go_wp2; go_ret
   exact ⟨sq, dr⟩
end Go.Proofs.Ytdfnijaacnlfaaa.QFnMachineGuesses
