import Derived.Test.YtfpmfaelodfecaaQFnExactGuessesx0
import Derived.Test.YtfpmfaelodfecaaQFnExactGuessesx4
import Derived.Test.YtfpmfaelodfecaaVMSh2
namespace Go.Proofs.Ytfpmfaelodfecaa.QFnExactGuesses
open Go.RowKit Go.Proofs.YtfpmfaelodfecaaW.PrintWords Go.Proofs.YtfpmfaelodfecaaW.PrintLast Go.Proofs.YtfpmfaelodfecaaW.PrintMore Go.Proofs.Ytfpmfaelodfecaa.Sh
attribute [local go_sem] max2_int min2_int max_two min_two max_three min_three max_four min_four   -- for this text's walks alone
set_option linter.unusedVariables false
set_option linter.unusedSimpArgs false
-- shrunk

/-! ### impl_Far: function 23 -/
mutual
def impl_Far.j0 : Nat → ByteArray → ByteArray → Bool → Option (Int)
 | 0, _, _, _ => none
 | k + 1, x0, x1, x18 => if x18 = true then (some (-1)) else (if 0 ≤ (wrap64 ((x0.size : Int) + 1)) then (if (wrap64 ((x0.size : Int) + 1) : Int).toNat ≤ 11728124029610 then ((some (List.replicate (wrap64 ((x0.size : Int) + 1) : Int).toNat [] : List (List Int))).bind fun y202 => (impl_Far.l0 k x0 x1 y202 (y202.length : Int) 0)) else (none)) else (none))
def impl_Far.l0 : Nat → ByteArray → ByteArray → List (List Int) → Int → Int → Option (Int)
 | 0, _, _, _, _, _ => none
 | k + 1, x0, x1, x5, x24, x25 => if x25 < x24 then (if 0 ≤ (wrap64 ((x1.size : Int) + 1)) then (if (wrap64 ((x1.size : Int) + 1) : Int).toNat ≤ 35184372088832 then (if 0 ≤ x25 then (if x25 < (x5.length : Int) then ((some (x5.set (x25 : Int).toNat (List.replicate (wrap64 ((x1.size : Int) + 1) : Int).toNat 0) : List (List Int))).bind fun y208 => (if 0 < ((rd_L2 y208 x25).length : Int) then (impl_Far.l0 k x0 x1 (y208.set (x25 : Int).toNat ((rd_L2 y208 x25).set (0 : Int).toNat x25)) x24 (wrap64 (x25 + 1))) else (none))) else (none)) else (none)) else (none)) else (none)) else (if 0 < (x5.length : Int) then (impl_Far.l1 k x0 x1 x5 ((rd_L2 x5 0).length : Int) 0) else (none))
def impl_Far.l1 : Nat → ByteArray → ByteArray → List (List Int) → Int → Int → Option (Int)
 | 0, _, _, _, _, _ => none
 | k + 1, x0, x1, x5, x45, x46 => if x46 < x45 then (if 0 < (x5.length : Int) then (if 0 ≤ x46 then (if x46 < ((rd_L2 x5 0).length : Int) then (impl_Far.l1 k x0 x1 (x5.set (0 : Int).toNat ((rd_L2 x5 0).set (x46 : Int).toNat x46)) x45 (wrap64 (x46 + 1))) else (none)) else (none)) else (none)) else (impl_Far.l2 k x0 x1 x5 1)
def impl_Far.l2 : Nat → ByteArray → ByteArray → List (List Int) → Int → Option (Int)
 | 0, _, _, _, _ => none
 | k + 1, x0, x1, x5, x8 => if x8 ≤ (x0.size : Int) then (impl_Far.l3 k x0 x1 x5 x8 1) else (if 0 ≤ (x0.size : Int) then (if (x0.size : Int) < (x5.length : Int) then (if 0 ≤ (x1.size : Int) then (if (x1.size : Int) < ((rd_L2 x5 (x0.size : Int)).length : Int) then (some (rd (rd_L2 x5 (x0.size : Int)) (x1.size : Int))) else (none)) else (none)) else (none)) else (none))
def impl_Far.l3 : Nat → ByteArray → ByteArray → List (List Int) → Int → Int → Option (Int)
 | 0, _, _, _, _, _ => none
 | k + 1, x0, x1, x5, x8, x9 => if x9 ≤ (x1.size : Int) then (if 0 ≤ (wrap64 (x8 - 1)) then (if (wrap64 (x8 - 1)) < (x5.length : Int) then (if 0 ≤ (wrap64 (x9 - 1)) then (if (wrap64 (x9 - 1)) < ((rd_L2 x5 (wrap64 (x8 - 1))).length : Int) then (if (wrap64 (x8 - 1)) < (x0.size : Int) then (if (wrap64 (x9 - 1)) < (x1.size : Int) then (if (bt x0 (wrap64 (x8 - 1))) = (bt x1 (wrap64 (x9 - 1))) then (impl_Far.j5 k x0 x1 x5 x8 x9 (rd (rd_L2 x5 (wrap64 (x8 - 1))) (wrap64 (x9 - 1)))) else (impl_Far.j5 k x0 x1 x5 x8 x9 (wrap64 ((rd (rd_L2 x5 (wrap64 (x8 - 1))) (wrap64 (x9 - 1))) + 1)))) else (none)) else (none)) else (none)) else (none)) else (none)) else (none)) else (impl_Far.l2 k x0 x1 x5 (wrap64 (x8 + 1)))
def impl_Far.j5 : Nat → ByteArray → ByteArray → List (List Int) → Int → Int → Int → Option (Int)
 | 0, _, _, _, _, _, _ => none
 | k + 1, x0, x1, x5, x8, x9, x10 => if 0 ≤ (wrap64 (x8 - 1)) then (if (wrap64 (x8 - 1)) < (x5.length : Int) then (if 0 ≤ x9 then (if x9 < ((rd_L2 x5 (wrap64 (x8 - 1))).length : Int) then (if 0 ≤ x8 then (if x8 < (x5.length : Int) then (if 0 ≤ (wrap64 (x9 - 1)) then (if (wrap64 (x9 - 1)) < ((rd_L2 x5 x8).length : Int) then (if x8 > 1 then (if x9 > 1 then (if (wrap64 (x8 - 1)) < (x0.size : Int) then (if 0 ≤ (wrap64 (x9 - 2)) then (if (wrap64 (x9 - 2)) < (x1.size : Int) then (if (bt x0 (wrap64 (x8 - 1))) = (bt x1 (wrap64 (x9 - 2))) then (if 0 ≤ (wrap64 (x8 - 2)) then (if (wrap64 (x8 - 2)) < (x0.size : Int) then (if (wrap64 (x9 - 1)) < (x1.size : Int) then (impl_Far.j6 k x0 x1 x5 x8 x9 (mn (mn x10 (wrap64 ((rd (rd_L2 x5 (wrap64 (x8 - 1))) x9) + 1))) (wrap64 ((rd (rd_L2 x5 x8) (wrap64 (x9 - 1))) + 1))) ((bt x0 (wrap64 (x8 - 2))) == (bt x1 (wrap64 (x9 - 1))))) else (none)) else (none)) else (none)) else (impl_Far.j6 k x0 x1 x5 x8 x9 (mn (mn x10 (wrap64 ((rd (rd_L2 x5 (wrap64 (x8 - 1))) x9) + 1))) (wrap64 ((rd (rd_L2 x5 x8) (wrap64 (x9 - 1))) + 1))) false)) else (none)) else (none)) else (none)) else (impl_Far.j6 k x0 x1 x5 x8 x9 (mn (mn x10 (wrap64 ((rd (rd_L2 x5 (wrap64 (x8 - 1))) x9) + 1))) (wrap64 ((rd (rd_L2 x5 x8) (wrap64 (x9 - 1))) + 1))) false)) else (impl_Far.j6 k x0 x1 x5 x8 x9 (mn (mn x10 (wrap64 ((rd (rd_L2 x5 (wrap64 (x8 - 1))) x9) + 1))) (wrap64 ((rd (rd_L2 x5 x8) (wrap64 (x9 - 1))) + 1))) false)) else (none)) else (none)) else (none)) else (none)) else (none)) else (none)) else (none)) else (none)
def impl_Far.j6 : Nat → ByteArray → ByteArray → List (List Int) → Int → Int → Int → Bool → Option (Int)
 | 0, _, _, _, _, _, _, _ => none
 | k + 1, x0, x1, x5, x8, x9, x10, x135 => if x135 = true then (if 0 ≤ (wrap64 (x8 - 2)) then (if (wrap64 (x8 - 2)) < (x5.length : Int) then (if 0 ≤ (wrap64 (x9 - 2)) then (if (wrap64 (x9 - 2)) < ((rd_L2 x5 (wrap64 (x8 - 2))).length : Int) then (if 0 ≤ x8 then (if x8 < (x5.length : Int) then (if 0 ≤ x9 then (if x9 < ((rd_L2 x5 x8).length : Int) then (impl_Far.l3 k x0 x1 (x5.set (x8 : Int).toNat ((rd_L2 x5 x8).set (x9 : Int).toNat (mn x10 (wrap64 ((rd (rd_L2 x5 (wrap64 (x8 - 2))) (wrap64 (x9 - 2))) + 1))))) x8 (wrap64 (x9 + 1))) else (none)) else (none)) else (none)) else (none)) else (none)) else (none)) else (none)) else (none)) else (if 0 ≤ x8 then (if x8 < (x5.length : Int) then (if 0 ≤ x9 then (if x9 < ((rd_L2 x5 x8).length : Int) then (impl_Far.l3 k x0 x1 (x5.set (x8 : Int).toNat ((rd_L2 x5 x8).set (x9 : Int).toNat x10)) x8 (wrap64 (x9 + 1))) else (none)) else (none)) else (none)) else (none))
end
def impl_Far.f (k : Nat) (a0 : ByteArray) (a1 : ByteArray) : Option (Int) := (impl_WordOk.f k a0).bind fun t200 => (if t200 = true then ((impl_WordOk.f k a1).bind fun t201 => (impl_Far.j0 k a0 a1 (!t201))) else (impl_Far.j0 k a0 a1 true))
set_option maxHeartbeats 8000000 in
set_option maxRecDepth 100000 in
theorem impl_Far.calls (k : Nat) (a0 : ByteArray) (a1 : ByteArray) (r : Int) (w : World) (h : impl_Far.f k a0 a1 = some r) :
  Calls Try.prog 23 #[.string a0, .string a1] w fun e w' => e = .returned (.int .i64 r) ∧ Below w.heap.size w w' := by
 have HB := am (Below.refl w.heap.size w)
 have H : ((impl_WordOk.f k a0).bind fun t200 => (if t200 = true then ((impl_WordOk.f k a1).bind fun t201 => (impl_Far.j0 k a0 a1 (!t201))) else (impl_Far.j0 k a0 a1 true))) = some r := h
 clear h; have HC3 := am H; clear H; go_enter Try.func23, Try.ntmps23
 go_upto_region 1 with (fail)
 repeat (go_quiet (fail); go_upto_region 1 with (fail))
 go_cut [18] (fun v18 wc => ∃ (kq : Nat) (x18_2 : Bool), v18 = .bool x18_2 ∧ Aside0 (impl_Far.j0 kq a0 a1 x18_2 = some r) ∧ Aside0 (kq ≤ k) ∧ Aside0 (Below w.heap.size w wc))
 case first =>
  have H := HC3.out; clear HC3; replace H := Option.bind_eq_some_iff.mp H; obtain ⟨t200, A40, H⟩ := H; replace H : (if t200 = true then ((impl_WordOk.f k a1).bind fun t201 => (impl_Far.j0 k a0 a1 (!t201))) else (impl_Far.j0 k a0 a1 true)) = some r := H; have A4 := Aside0.mk A40; clear A40
  by_cases c5 : t200 = true
  ·subst c5
   have H1 : ((impl_WordOk.f k a1).bind fun t201 => (impl_Far.j0 k a0 a1 (!t201))) = some r := b16_
   replace H := H1; clear H1
   replace H := Option.bind_eq_some_iff.mp H; obtain ⟨t201, A60, H⟩ := H; replace H : (impl_Far.j0 k a0 a1 (!t201)) = some r := H; have A6 := Aside0.mk A60; clear A60
   have H' := am H
   clear H
   go_wp2_with (first | (go_at_call 60; (with_reducible refine (impl_WordOk.calls k a0 true _ A4.out).mono ?_); rintro e w' ⟨rfl, ⟨nd, rfl⟩⟩; (try first | exact ⟨rfl, _, World.drewN_drewN _ _ _⟩ | exact ⟨rfl, _, Eq.trans (World.drewN_drewN _ _ _) (congrArg (World.drewN _) (Nat.add_assoc _ _ _))⟩)) | (go_at_call 60; (with_reducible refine (impl_WordOk.calls k a1 t201 _ A6.out).mono ?_); rintro e w' ⟨rfl, ⟨nd, rfl⟩⟩; (try first | exact ⟨rfl, _, World.drewN_drewN _ _ _⟩ | exact ⟨rfl, _, Eq.trans (World.drewN_drewN _ _ _) (congrArg (World.drewN _) (Nat.add_assoc _ _ _))⟩)))
   repeat (go_quiet (first | (go_at_call 60; (with_reducible refine (impl_WordOk.calls k a0 true _ A4.out).mono ?_); rintro e w' ⟨rfl, ⟨nd, rfl⟩⟩; (try first | exact ⟨rfl, _, World.drewN_drewN _ _ _⟩ | exact ⟨rfl, _, Eq.trans (World.drewN_drewN _ _ _) (congrArg (World.drewN _) (Nat.add_assoc _ _ _))⟩)) | (go_at_call 60; (with_reducible refine (impl_WordOk.calls k a1 t201 _ A6.out).mono ?_); rintro e w' ⟨rfl, ⟨nd, rfl⟩⟩; (try first | exact ⟨rfl, _, World.drewN_drewN _ _ _⟩ | exact ⟨rfl, _, Eq.trans (World.drewN_drewN _ _ _) (congrArg (World.drewN _) (Nat.add_assoc _ _ _))⟩))); try go_wp2_with (first | (go_at_call 60; (with_reducible refine (impl_WordOk.calls k a0 true _ A4.out).mono ?_); rintro e w' ⟨rfl, ⟨nd, rfl⟩⟩; (try first | exact ⟨rfl, _, World.drewN_drewN _ _ _⟩ | exact ⟨rfl, _, Eq.trans (World.drewN_drewN _ _ _) (congrArg (World.drewN _) (Nat.add_assoc _ _ _))⟩)) | (go_at_call 60; (with_reducible refine (impl_WordOk.calls k a1 t201 _ A6.out).mono ?_); rintro e w' ⟨rfl, ⟨nd, rfl⟩⟩; (try first | exact ⟨rfl, _, World.drewN_drewN _ _ _⟩ | exact ⟨rfl, _, Eq.trans (World.drewN_drewN _ _ _) (congrArg (World.drewN _) (Nat.add_assoc _ _ _))⟩))))
   go_meet
   case rel => exact ⟨_, (!t201), sq, H', ⟨by first | omega | exact Nat.le_refl _⟩, ⟨bel⟩⟩
  ·replace c5 := Bool.eq_false_iff.mpr c5; subst c5
   have H1 : (impl_Far.j0 k a0 a1 true) = some r := b5_
   replace H := H1; clear H1
   have H' := am H
   clear H
   go_wp2_with (first | (go_at_call 60; (with_reducible refine (impl_WordOk.calls k a0 false _ A4.out).mono ?_); rintro e w' ⟨rfl, ⟨nd, rfl⟩⟩; (try first | exact ⟨rfl, _, World.drewN_drewN _ _ _⟩ | exact ⟨rfl, _, Eq.trans (World.drewN_drewN _ _ _) (congrArg (World.drewN _) (Nat.add_assoc _ _ _))⟩)))
   repeat (go_quiet (first | (go_at_call 60; (with_reducible refine (impl_WordOk.calls k a0 false _ A4.out).mono ?_); rintro e w' ⟨rfl, ⟨nd, rfl⟩⟩; (try first | exact ⟨rfl, _, World.drewN_drewN _ _ _⟩ | exact ⟨rfl, _, Eq.trans (World.drewN_drewN _ _ _) (congrArg (World.drewN _) (Nat.add_assoc _ _ _))⟩))); try go_wp2_with (first | (go_at_call 60; (with_reducible refine (impl_WordOk.calls k a0 false _ A4.out).mono ?_); rintro e w' ⟨rfl, ⟨nd, rfl⟩⟩; (try first | exact ⟨rfl, _, World.drewN_drewN _ _ _⟩ | exact ⟨rfl, _, Eq.trans (World.drewN_drewN _ _ _) (congrArg (World.drewN _) (Nat.add_assoc _ _ _))⟩))))
   go_meet
   case rel => exact ⟨_, (true), sq, H', ⟨by first | omega | exact Nat.le_refl _⟩, ⟨bel⟩⟩
 case rest =>
  clear HC3; (try clear c2); (try clear p2); (try clear c5); obtain ⟨kq, x18_2, rfl, HA, HJ2, HB⟩ := hcut
  cases kq with
  | zero => exact absurd HA.out (by simp [impl_Far.j0])
  | succ kj2 =>
   have H := HA.out; clear HA
   simp only [impl_Far.j0] at H
   by_cases c7 : x18_2 = true
   ·subst c7
    have H1 : (some (-1)) = some r := b16_
    replace H := H1; clear H1
    obtain rfl := Option.some.inj H; go_wp2
    repeat (go_quiet (fail); try go_wp2)
    go_ret
    exact ⟨eq_, bel⟩
   ·replace c7 := Bool.eq_false_iff.mpr c7; subst c7
    have H1 : (if 0 ≤ (wrap64 ((a0.size : Int) + 1)) then (if (wrap64 ((a0.size : Int) + 1) : Int).toNat ≤ 11728124029610 then ((some (List.replicate (wrap64 ((a0.size : Int) + 1) : Int).toNat [] : List (List Int))).bind fun y202 => (impl_Far.l0 kj2 a0 a1 y202 (y202.length : Int) 0)) else (none)) else (none)) = some r := b5_
    replace H := H1; clear H1
    obtain ⟨ji8, hji8⟩ : ∃ j_ : Int, (wrap64 ((a0.size : Int) + 1)) = j_ := ⟨_, rfl⟩
    replace H : (if 0 ≤ (ji8) then (if (ji8 : Int).toNat ≤ 11728124029610 then ((some (List.replicate (ji8 : Int).toNat [] : List (List Int))).bind fun y202 => (impl_Far.l0 kj2 a0 a1 y202 (y202.length : Int) 0)) else (none)) else (none)) = some r := by first | (rw [hji8] at H; exact H) | (simp only [hji8] at H ⊢; exact H)
    have hji8w : (IntKind.i64.wrap ((a0.size : Int) + 1)) = ji8 := (i64_w _).trans hji8
    by_cases c9 : 0 ≤ (ji8)
    ·rw [if_pos c9] at H; have c9b0 := eq_true c9
     have c9b1 : decide (0 ≤ (ji8)) = true := decide_eq_true c9
     clear c9
     by_cases c10 : (ji8 : Int).toNat ≤ 11728124029610
     ·rw [if_pos c10] at H; have c10b0 := eq_true c10
      have c10b1 : decide ((ji8 : Int).toNat ≤ 11728124029610) = true := decide_eq_true c10
      clear c10; obtain ⟨y202, hy202⟩ : ∃ y_ : List (List Int), y_ = (List.replicate (ji8 : Int).toNat []) := ⟨_, rfl⟩
      replace H : (impl_Far.l0 kj2 a0 a1 y202 (y202.length : Int) 0) = some r := by first | (rw [hy202]; with_reducible exact H) | (have H2_ := (Option.bind_some _ _).symm.trans H; rw [hy202]; with_reducible exact H2_) | (have H2_ := (Option.bind_some _ _).symm.trans H; with_reducible exact H2_) | with_reducible exact H | (rw [hy202]; exact H) | exact H
      have Ny202 := am hy202; clear hy202
      have H' := am H
      clear H
      go_wp2_with (first | ((with_reducible refine gate_dst (N := 22) rfl ?_); refine Kd.S_make (Kd.slice 3 (Kd.int .i64)) _ 86 rfl (N := 22) rfl 85 _ _ rfl ji8 rfl rfl Try.underlying85 (.slice none 0 0) 24 info86 rfl (by decide) (by omega) [] (ok := fun _ => True) (okp := fun _ => True) ⟨_, rfl, Kd.R_nil _ _ _ _ _⟩ (fun _ hk => hk) trivial (of_decide_eq_true ad) (Nat.le_trans (Nat.mul_le_mul_right _ (of_decide_eq_true ad : ji8.toNat ≤ 11728124029610)) (by omega)) (Below.refl _ _) (Nat.le_refl _) ?_; intro v203 w11 ho12 hb hg_ hnew_; clear hg_ hnew_; (first | rw [← Ny202.out] at ho12 | (simp only [Int.reduceToNat] at ho12; rw [← Ny202.out] at ho12) | (simp only [Int.toNat_natCast] at ho12; rw [← Ny202.out] at ho12)); have HO204 := am (Kd.S_lower ho12 (below_size bel)); replace HB := am (below_step bel hb); clear hb ho12; obtain ⟨Ao13, co13, eo13⟩ := Kd.S_slice HO204.out; subst eo13))
      repeat (go_quiet (first | ((with_reducible refine gate_dst (N := 22) rfl ?_); refine Kd.S_make (Kd.slice 3 (Kd.int .i64)) _ 86 rfl (N := 22) rfl 85 _ _ rfl ji8 rfl rfl Try.underlying85 (.slice none 0 0) 24 info86 rfl (by decide) (by omega) [] (ok := fun _ => True) (okp := fun _ => True) ⟨_, rfl, Kd.R_nil _ _ _ _ _⟩ (fun _ hk => hk) trivial (of_decide_eq_true ad) (Nat.le_trans (Nat.mul_le_mul_right _ (of_decide_eq_true ad : ji8.toNat ≤ 11728124029610)) (by omega)) (Below.refl _ _) (Nat.le_refl _) ?_; intro v203 w11 ho12 hb hg_ hnew_; clear hg_ hnew_; (first | rw [← Ny202.out] at ho12 | (simp only [Int.reduceToNat] at ho12; rw [← Ny202.out] at ho12) | (simp only [Int.toNat_natCast] at ho12; rw [← Ny202.out] at ho12)); have HO204 := am (Kd.S_lower ho12 (below_size bel)); replace HB := am (below_step bel hb); clear hb ho12; obtain ⟨Ao13, co13, eo13⟩ := Kd.S_slice HO204.out; subst eo13)); try go_wp2_with (first | ((with_reducible refine gate_dst (N := 22) rfl ?_); refine Kd.S_make (Kd.slice 3 (Kd.int .i64)) _ 86 rfl (N := 22) rfl 85 _ _ rfl ji8 rfl rfl Try.underlying85 (.slice none 0 0) 24 info86 rfl (by decide) (by omega) [] (ok := fun _ => True) (okp := fun _ => True) ⟨_, rfl, Kd.R_nil _ _ _ _ _⟩ (fun _ hk => hk) trivial (of_decide_eq_true ad) (Nat.le_trans (Nat.mul_le_mul_right _ (of_decide_eq_true ad : ji8.toNat ≤ 11728124029610)) (by omega)) (Below.refl _ _) (Nat.le_refl _) ?_; intro v203 w11 ho12 hb hg_ hnew_; clear hg_ hnew_; (first | rw [← Ny202.out] at ho12 | (simp only [Int.reduceToNat] at ho12; rw [← Ny202.out] at ho12) | (simp only [Int.toNat_natCast] at ho12; rw [← Ny202.out] at ho12)); have HO204 := am (Kd.S_lower ho12 (below_size bel)); replace HB := am (below_step bel hb); clear hb ho12; obtain ⟨Ao13, co13, eo13⟩ := Kd.S_slice HO204.out; subst eo13)))
      go_loopg [25] kj2 (fun kq v25 w' => ∃ (x5_2 : List (List Int)) (x25_2 : Int), v25 = .int .i64 x25_2 ∧ Aside0 (impl_Far.l0 kq a0 a1 x5_2 (y202.length : Int) x25_2 = some r) ∧ Aside0 (kq ≤ kj2) ∧ Aside0 (Kd.S (Kd.slice 3 (Kd.int .i64)) 86 w' w.heap.size (fun _ => True) (.slice Ao13 y202.length co13) x5_2) ∧ Aside0 (Below w.heap.size w w'))
      case atStart => exact ⟨(y202), (0), sq, H', ⟨Nat.le_refl _⟩, ⟨by (with_reducible repeat (first | apply Kd.S_alloc | apply Kd.S_drewN | apply Kd.S_drew)); exact HO204.out⟩, ⟨bel⟩⟩
      case round =>
       clear H'; (try clear c1); (try clear c2); (try clear p2); (try clear c5); (try clear p6); (try clear c7); (try clear c9); (try clear c9b0); (try clear c9b1); (try clear c10); (try clear c10b0); (try clear c10b1); (try clear p2); obtain ⟨x5_2, x25_2, rfl, HA, HK2, HO_5, HB⟩ := hrel; have hl5_2 := (Kd.S_reads' HO_5.out).1; rw [hl5_2] at HO_5
       (try simp only [hl5_2])
       cases gk with
       | zero => exact absurd HA.out (by simp [impl_Far.l0])
       | succ k2 =>
        have H := HA.out; clear HA
        simp only [impl_Far.l0] at H
        by_cases c14 : x25_2 < (y202.length : Int)
        ·rw [if_pos c14] at H; have c14b0 := decide_eq_true c14
         try have c14b8 := c14b0
         try simp only [hl5_2] at c14b8
         clear c14; obtain ⟨ji15, hji15⟩ : ∃ j_ : Int, (wrap64 ((a1.size : Int) + 1)) = j_ := ⟨_, rfl⟩
         replace H : (if 0 ≤ (ji15) then (if (ji15 : Int).toNat ≤ 35184372088832 then (if 0 ≤ x25_2 then (if x25_2 < (x5_2.length : Int) then ((some (x5_2.set (x25_2 : Int).toNat (List.replicate (ji15 : Int).toNat 0) : List (List Int))).bind fun y208 => (if 0 < ((rd_L2 y208 x25_2).length : Int) then (impl_Far.l0 k2 a0 a1 (y208.set (x25_2 : Int).toNat ((rd_L2 y208 x25_2).set (0 : Int).toNat x25_2)) (y202.length : Int) (wrap64 (x25_2 + 1))) else (none))) else (none)) else (none)) else (none)) else (none)) = some r := by first | (rw [hji15] at H; exact H) | (simp only [hji15] at H ⊢; exact H)
         have hji15w : (IntKind.i64.wrap ((a1.size : Int) + 1)) = ji15 := (i64_w _).trans hji15
         by_cases c16 : 0 ≤ (ji15)
         ·rw [if_pos c16] at H; have c16b0 := eq_true c16
          have c16b1 : decide (0 ≤ (ji15)) = true := decide_eq_true c16
          clear c16
          by_cases c17 : (ji15 : Int).toNat ≤ 35184372088832
          ·rw [if_pos c17] at H; have c17b0 := eq_true c17
           have c17b1 : decide ((ji15 : Int).toNat ≤ 35184372088832) = true := decide_eq_true c17
           clear c17; obtain ⟨y205, hy205⟩ : ∃ y_ : List Int, y_ = (List.replicate (ji15 : Int).toNat 0) := ⟨_, rfl⟩
           replace H : (if 0 ≤ x25_2 then (if x25_2 < (x5_2.length : Int) then ((some (x5_2.set (x25_2 : Int).toNat y205 : List (List Int))).bind fun y208 => (if 0 < ((rd_L2 y208 x25_2).length : Int) then (impl_Far.l0 k2 a0 a1 (y208.set (x25_2 : Int).toNat ((rd_L2 y208 x25_2).set (0 : Int).toNat x25_2)) (y202.length : Int) (wrap64 (x25_2 + 1))) else (none))) else (none)) else (none)) = some r := by first | (rw [hy205]; with_reducible exact H) | (have H2_ := (Option.bind_some _ _).symm.trans H; rw [hy205]; with_reducible exact H2_) | (have H2_ := (Option.bind_some _ _).symm.trans H; with_reducible exact H2_) | with_reducible exact H | (rw [hy205]; exact H) | exact H
           have Ny205 := am hy205; clear hy205
           by_cases c18 : 0 ≤ x25_2
           ·rw [if_pos c18] at H; have c18b0 := decide_eq_true c18; clear c18
            by_cases c19 : x25_2 < (x5_2.length : Int)
            ·rw [if_pos c19] at H; have c19b0 := decide_eq_true c19
             try have c19b8 := c19b0
             try simp only [hl5_2] at c19b8
             clear c19; obtain ⟨y208, hy208⟩ : ∃ y_ : List (List Int), y_ = (x5_2.set (x25_2 : Int).toNat y205) := ⟨_, rfl⟩
             replace H : (if 0 < ((rd_L2 y208 x25_2).length : Int) then (impl_Far.l0 k2 a0 a1 (y208.set (x25_2 : Int).toNat ((rd_L2 y208 x25_2).set (0 : Int).toNat x25_2)) (y202.length : Int) (wrap64 (x25_2 + 1))) else (none)) = some r := by first | (rw [hy208]; with_reducible exact H) | (have H2_ := (Option.bind_some _ _).symm.trans H; rw [hy208]; with_reducible exact H2_) | (have H2_ := (Option.bind_some _ _).symm.trans H; with_reducible exact H2_) | with_reducible exact H | (rw [hy208]; exact H) | exact H
             have Ny208 := am hy208; clear hy208
             by_cases c21 : 0 < ((rd_L2 y208 x25_2).length : Int)
             ·rw [if_pos c21] at H; have c21b0 := decide_eq_true c21
              try have c21b8 := c21b0
              try simp only [hl5_2] at c21b8
              have c21b1 : decide (0 < (rd_L2 y208 x25_2).length) = true := decide_eq_true (by omega)
              clear c21; obtain ⟨y210, hy210⟩ : ∃ y_ : List Int, y_ = ((rd_L2 y208 x25_2).set (0 : Int).toNat x25_2) := ⟨_, rfl⟩
              replace H : (impl_Far.l0 k2 a0 a1 (y208.set (x25_2 : Int).toNat y210) (y202.length : Int) (wrap64 (x25_2 + 1))) = some r := by first | (rw [hy210]; with_reducible exact H) | (have H2_ := (Option.bind_some _ _).symm.trans H; rw [hy210]; with_reducible exact H2_) | (have H2_ := (Option.bind_some _ _).symm.trans H; with_reducible exact H2_) | with_reducible exact H | (rw [hy210]; exact H) | exact H
              have Ny210 := am hy210; clear hy210; obtain ⟨y212, hy212⟩ : ∃ y_ : List (List Int), y_ = (y208.set (x25_2 : Int).toNat y210) := ⟨_, rfl⟩
              replace H : (impl_Far.l0 k2 a0 a1 y212 (y202.length : Int) (wrap64 (x25_2 + 1))) = some r := by first | (rw [hy212]; with_reducible exact H) | (have H2_ := (Option.bind_some _ _).symm.trans H; rw [hy212]; with_reducible exact H2_) | (have H2_ := (Option.bind_some _ _).symm.trans H; with_reducible exact H2_) | with_reducible exact H | (rw [hy212]; exact H) | exact H
              have Ny212 := am hy212; clear hy212
              have H' := am H
              clear H
              go_wp2_with (first | ((with_reducible refine gate_dst (N := 33) rfl ?_); refine Kd.R_make (Kd.int .i64) _ 3 rfl (N := 33) rfl 86 _ _ rfl ji15 rfl rfl Try.underlying86 (.int .i64 0) 8 info3 rfl (by decide) (by omega) 0 (ok := fun _ => True) (okp := fun _ => True) rfl (fun _ hk => hk) trivial (of_decide_eq_true ad) (Nat.le_trans (Nat.mul_le_mul_right _ (of_decide_eq_true ad : ji15.toNat ≤ 35184372088832)) (by omega)) (Below.refl _ _) (Nat.le_refl _) ?_; intro v206 w23 ho24 hb hg_ hnew_; clear hg_ hnew_; (first | rw [← Ny205.out] at ho24 | (simp only [Int.reduceToNat] at ho24; rw [← Ny205.out] at ho24) | (simp only [Int.toNat_natCast] at ho24; rw [← Ny205.out] at ho24)); replace HO_5 := am (Kd.S_elder' b10_ (Kd.R_base ho24) hb); have HO207 := am (Kd.R_lower ho24 (below_size bel)); replace HB := am (below_step bel hb); clear hb ho24; have p20 : 0 ≤ (x25_2 : Int) := of_decide_eq_true ad; have q20 : (x25_2 : Int) < ((x5_2.length : Int) : Int) := of_decide_eq_true ad; obtain ⟨go20, co20, eo20, gb20, gl20, cl20, HG20⟩ := Kd.S_form HO_5.out (by omega); (first | cases eo20 | (injection eo20 with ea_ en_ ec_; (first | subst ea_ | (injection ea_ with ea_; subst ea_)); subst ec_; clear en_)); have GB20 := Aside0.mk gb20; have GG20 := am HG20; clear gb20 gl20 HG20; obtain ⟨_, ce20, hcl20, hM20, hcc20, hfr20, _, _⟩ := Kd.S_elem HO_5.out [] (x25_2 : Int) p20 q20; obtain ⟨ve20_0, rfl, ge20_0⟩ := hM20; have hx20_0 := hcc20 0 _ rfl; have hf20_0 := hfr20 0; (try simp only [show ((Kd.slice 3 (Kd.int .i64))).sz = 1 from rfl, Nat.mul_one, Nat.add_zero] at hx20_0); (try simp only [show ((Kd.slice 3 (Kd.int .i64))).sz = 1 from rfl, Nat.mul_one, Nat.add_zero] at hf20_0); clear hcl20 hcc20 hfr20; (try clear hM20); replace p20 := eq_true p20; replace q20 := eq_true q20; have n_ := am (Kd.S_mono (ok' := (fun k_ => some k_ ≠ (v206 : Value).ownBlock)) HO_5.out (fun k_ hk => hk.2)); clear HO_5; have HO_5 := n_; clear n_; have HX25 := am (show Kd.S (Kd.slice 3 (Kd.int .i64)) 86 w23 w.heap.size (fun k_ => ((fun _ => True)) k_ ∧ ¬ ((fun k_ => some k_ = (v206 : Value).ownBlock)) k_) (.slice (some ⟨go20, 0, none⟩) x5_2.length co13) x5_2 from b6_); obtain ⟨oki25, ce25, hcl25, hM25, hcc25, hfr25, hoki25, hH25⟩ := Kd.S_elem HX25.out [] (x25_2 : Int) (of_decide_eq_true ad) b1_; obtain ⟨ve25_0, rfl, ge25_0⟩ := hM25; have HP25 := Kd.S_seg hH25 (of_decide_eq_true ad) b1_ (seg := [v206]) (j := 0) (show 1 ≤ 1 from by decide) (x' := y205) (Kd.M_row (Kd.R_mono (Kd.R_tight rfl (Kd.R_mono (ok' := fun k_ => ((fun _ => True)) k_ ∧ k_ ≠ go20) (Kd.R_apart' (HO207.out) (Kd.S_typed HO_5.out) (by decide)) (fun k_ hk => ⟨trivial, fun e_ => (hk.2) (by rw [e_]; rfl)⟩))) (fun _ h_ => Or.inr (h_)))) (fun _ hk => hk) (fun k_ hk_ => ((Kd.R_mono (ok' := fun k_ => ((fun _ => True)) k_ ∧ k_ ≠ go20) (Kd.R_apart' (HO207.out) (Kd.S_typed HO_5.out) (by decide)) (fun k_ hk => ⟨trivial, fun e_ => (hk.2) (by rw [e_]; rfl)⟩))).1 k_ hk_.symm); have hx25_0 := hcc25 0 _ rfl; (try simp only [show ((Kd.slice 3 (Kd.int .i64))).sz = 1 from rfl, Nat.mul_one, Nat.add_zero] at hx25_0); have hf25_0 := hfr25 0; (try simp only [show ((Kd.slice 3 (Kd.int .i64))).sz = 1 from rfl, Nat.mul_one, Nat.add_zero] at hf25_0); clear hcl25 hcc25 hfr25 hoki25 hH25; (try clear hM25); (try simp only [show ((Kd.slice 3 (Kd.int .i64))).sz = 1 from rfl, Nat.mul_one, Nat.add_zero] at HP25)) | ((with_reducible refine gate_store (t := 86) (p := 34) rfl ?_); (try (rw [drewN_self w23]; generalize hq_ : World.drewN w23 _ = w23; have n0_ := am (Kd.S_at hq_ HO_5.out); have n1_ := am (below_at hq_ HB.out); clear hq_ HO_5 HB; have HO_5 := n0_; have HB := n1_; clear n0_ n1_; (try (have n_ := am (Kd.S_mono (ok' := (fun k_ => some k_ ≠ (v206 : Value).ownBlock)) HO_5.out (fun k_ hk => hk.2)); clear HO_5; have HO_5 := n_; clear n_)); (try (have HX25 := am (show Kd.S (Kd.slice 3 (Kd.int .i64)) 86 w23 w.heap.size (fun k_ => ((fun _ => True)) k_ ∧ ¬ ((fun k_ => some k_ = (v206 : Value).ownBlock)) k_) (.slice (some ⟨go20, 0, none⟩) x5_2.length co13) x5_2 from b6_))); (try (obtain ⟨oki25, ce25, hcl25, hM25, hcc25, hfr25, hoki25, hH25⟩ := Kd.S_elem HX25.out [] (x25_2 : Int) (of_decide_eq_true ad) b1_)); (try (obtain ⟨ve25_0, rfl, ge25_0⟩ := hM25)); (try (have HP25 := Kd.S_seg hH25 (of_decide_eq_true ad) b1_ (seg := [v206]) (j := 0) (show 1 ≤ 1 from by decide) (x' := y205) (Kd.M_row (Kd.R_mono (Kd.R_tight rfl (Kd.R_mono (ok' := fun k_ => ((fun _ => True)) k_ ∧ k_ ≠ go20) (Kd.R_apart' (HO207.out) (Kd.S_typed HO_5.out) (by decide)) (fun k_ hk => ⟨trivial, fun e_ => (hk.2) (by rw [e_]; rfl)⟩))) (fun _ h_ => Or.inr (h_)))) (fun _ hk => hk) (fun k_ hk_ => ((Kd.R_mono (ok' := fun k_ => ((fun _ => True)) k_ ∧ k_ ≠ go20) (Kd.R_apart' (HO207.out) (Kd.S_typed HO_5.out) (by decide)) (fun k_ hk => ⟨trivial, fun e_ => (hk.2) (by rw [e_]; rfl)⟩))).1 k_ hk_.symm))); (try (have hx25_0 := hcc25 0 _ rfl)); (try (try simp only [show ((Kd.slice 3 (Kd.int .i64))).sz = 1 from rfl, Nat.mul_one, Nat.add_zero] at hx25_0)); (try (have hf25_0 := hfr25 0)); (try (try simp only [show ((Kd.slice 3 (Kd.int .i64))).sz = 1 from rfl, Nat.mul_one, Nat.add_zero] at hf25_0)); (try (clear hcl25 hcc25 hfr25 hoki25 hH25; (try clear hM25))); (try (try simp only [show ((Kd.slice 3 (Kd.int .i64))).sz = 1 from rfl, Nat.mul_one, Nat.add_zero] at HP25)))); have hcs_ := (by obtain ⟨A_, c_, e_⟩ := Kd.R_slice HO207.out; rw [e_]; rfl : Value.cells v206 = #[v206]); unfold Value.cells at hcs_; have hst_ := (by obtain ⟨A_, c_, e_⟩ := Kd.R_slice HO207.out; intro a_ w_ m_; rw [e_]; exact run_store_slice _ _ _ _ _ _ _ : ∀ (a_ : Addr) (w_ : World) (m_ : Mode), (store a_ v206 m_).run Try.prog w_ = stored Try.prog w_ a_ v206 m_); refine store_event (t := 86) (p := 34) (v := ?vo_w26) (w1 := (w23.setCell ⟨go20, (x25_2 : Int).toNat, none⟩ (v206))) ?hg ?ho ?hn ?hr ?_; (case ho => rfl); (case hg => rfl); (case hn => rfl); (case hr => first | (go_simp; done) | (go_simp; rfl)); intro w26 hw; have hg : w23.grownBy w26 (some go20) := (by rw [hw]; exact HP25.2); have hp_ : Kd.S (Kd.slice 3 (Kd.int .i64)) 86 w26 w.heap.size (fun _ => True) (.slice (some ⟨go20, 0, none⟩) x5_2.length co13) y208 := (by rw [hw, Ny208.out]; exact HP25.1); clear HP25; replace HO_5 := am (hp_); replace HB := am ((by rw [hw]; exact below_set (HB.out) GB20.out : Below w.heap.size w w26)); clear HO207; clear hg hw hp_; have p209 : 0 ≤ (x25_2 : Int) := of_decide_eq_true ad; have q209 : x25_2 < (y208.length : Int) := b20_; have ql209 : ((x25_2 : Int) < ((x5_2.length : Int) : Int)) = True := eq_true (of_decide_eq_true ad); obtain ⟨ad209, A209_0, c209_0, e209, hx209_0, hl209_0, hi209_0⟩ := at_L2 (Kd.S_reads' HO_5.out).2.2 x25_2 p209 q209; obtain rfl : (⟨go20, 0, none⟩ : Addr) = ad209 := (by injection e209); obtain ⟨ce209, hce209, hMe209, hcc209⟩ := Kd.S_get HO_5.out [] x25_2 p209 b33_; obtain ⟨ve209_0, rfl, ge209_0⟩ := hMe209; have hv209_0 := hcc209 0 _ rfl; rw [Nat.add_zero, show ((Kd.slice 3 (Kd.int .i64))).sz = 1 from rfl, Nat.mul_one] at hv209_0; replace hv209_0 := Option.some.inj (hv209_0.symm.trans hx209_0); rw [hv209_0] at ge209_0; have HL209_0 := am (show Kd.R (Kd.int .i64) 3 _ _ _ _ (rd_L2 y208 x25_2) from ge209_0); clear hv209_0 ge209_0; have HX209_0 := am hx209_0; clear hcc209 hce209; (first | simp only [add_plain] at hx209_0 | simp only [add_at] at hx209_0 | simp only [Addr.add, Nat.zero_add] at hx209_0 | skip); have HR209_0 := am hi209_0; have HC209_0 := am hl209_0; clear hi209_0 hl209_0; replace p209 := eq_true p209; replace q209 := eq_true q209; have p22 : 0 ≤ (0 : Int) := (by omega); have q22 : (0 : Int) < (((rd_L2 y208 x25_2).length : Int) : Int) := of_decide_eq_true ad; have qi22 : (0 < (rd_L2 y208 x25_2).length) = True := eq_true (by omega); obtain ⟨go22, co22, eo22, gb22, gl22, cl22, HG22⟩ := Kd.R_form HL209_0.out (by omega); (first | cases eo22 | (injection eo22 with ea_ en_ ec_; (first | subst ea_ | (injection ea_ with ea_; subst ea_)); subst ec_; clear en_)); have GB22 := Aside0.mk gb22; have GG22 := am HG22; clear gb22 gl22 HG22; obtain ⟨hx22_0, hf22_0⟩ := Kd.R_celln 0 HL209_0.out (0 : Int) p22 q22; (try rw [show ((0 : Int)).toNat = 0 from rfl] at hx22_0); (try simp only [Nat.reduceMul, Nat.zero_mul, Nat.zero_add, Nat.reduceAdd] at hx22_0); (try rw [show ((0 : Int)).toNat = 0 from rfl] at hf22_0); (try simp only [Nat.reduceMul, Nat.zero_mul, Nat.zero_add, Nat.reduceAdd] at hf22_0); replace p22 := eq_true p22; replace q22 := eq_true q22; have hq27 : (x25_2 : Int) < (y208.length : Int) := b11_; obtain ⟨oki27, ce27, hcl27, hM27, hcc27, hok27, hbk27⟩ := Kd.S_borrow HO_5.out [] (x25_2 : Int) (of_decide_eq_true ad) b34_; obtain ⟨ve27_0, rfl, ge27_0⟩ := hM27; have hv27 := hcc27 0 _ rfl; rw [Nat.add_zero, show ((Kd.slice 3 (Kd.int .i64))).sz = 1 from rfl, Nat.mul_one] at hv27; replace hv27 := Option.some.inj (hv27.symm.trans HX209_0.out); subst hv27; clear hcc27 hcl27; replace ge27_0 := (show Kd.R (Kd.int .i64) 3 _ _ _ _ (rd_L2 y208 x25_2) from ge27_0); have HP27 := Kd.R_putg ge27_0 (0 : Int) x25_2) | ((with_reducible refine gate_store (t := 3) (p := 40) rfl ?_); (try (rw [drewN_self w26]; generalize hq_ : World.drewN w26 _ = w26; have n0_ := am (Kd.S_at hq_ HO_5.out); have n1_ := am (Kd.R_at hq_ HL236.out); have n2_ := am (below_at hq_ HB.out); clear hq_ HO_5 HL236 HB; have HO_5 := n0_; have HL236 := n1_; have HB := n2_; clear n0_ n1_ n2_; (try (have hq27 : (x25_2 : Int) < (y208.length : Int) := b11_)); (try (obtain ⟨oki27, ce27, hcl27, hM27, hcc27, hok27, hbk27⟩ := Kd.S_borrow HO_5.out [] (x25_2 : Int) (of_decide_eq_true ad) hq27)); (try (obtain ⟨ve27_0, rfl, ge27_0⟩ := hM27)); (try (have hv27 := hcc27 0 _ rfl)); (try (rw [Nat.add_zero, show ((Kd.slice 3 (Kd.int .i64))).sz = 1 from rfl, Nat.mul_one] at hv27)); (try (replace hv27 := Option.some.inj (hv27.symm.trans HX209_0.out))); (try (subst hv27)); (try (clear hcc27 hcl27)); (try (replace ge27_0 := (show Kd.R (Kd.int .i64) 3 _ _ _ _ (rd_L2 y208 x25_2) from ge27_0))); (try (have HP27 := Kd.R_putg ge27_0 (0 : Int) x25_2)))); refine store_event (t := 3) (p := 40) (v := ?vo_w28) (w1 := (w26.setCell ⟨go22, 0, none⟩ (.int .i64 x25_2))) ?hg ?ho ?hn ?hr ?_; (case ho => rfl); (case hg => rfl); (case hn => rfl); (case hr => first | (go_simp; done) | (go_simp; rfl)); intro w28 hw; have hg : w26.grownBy w28 (some go22) := (by rw [hw]; exact HP27.2); have hz_ : Kd.R (Kd.int .i64) 3 w28 w.heap.size oki27 (.slice (some ⟨go22, 0, none⟩) (rd_L2 y208 x25_2).length c209_0) y210 := (by rw [hw, Ny210.out]; exact HP27.1); have hp_ : Kd.S (Kd.slice 3 (Kd.int .i64)) 86 w28 w.heap.size (fun _ => True) (.slice (some ⟨go20, 0, none⟩) x5_2.length co13) y212 := b26_; have hm_ := Kd.R_mono hz_ hok27; clear HP27 hbk27; replace HO_5 := am (hp_); replace HB := am ((by rw [hw]; exact below_set (HB.out) GB22.out : Below w.heap.size w w28)); have HL236 := am (hm_); have HC211 := am ((Kd.R_reads' hm_).2.1); clear HL209_0; clear hg hw hp_ hz_ hm_ hok27))
              repeat (go_quiet (first | ((with_reducible refine gate_dst (N := 33) rfl ?_); refine Kd.R_make (Kd.int .i64) _ 3 rfl (N := 33) rfl 86 _ _ rfl ji15 rfl rfl Try.underlying86 (.int .i64 0) 8 info3 rfl (by decide) (by omega) 0 (ok := fun _ => True) (okp := fun _ => True) rfl (fun _ hk => hk) trivial (of_decide_eq_true ad) (Nat.le_trans (Nat.mul_le_mul_right _ (of_decide_eq_true ad : ji15.toNat ≤ 35184372088832)) (by omega)) (Below.refl _ _) (Nat.le_refl _) ?_; intro v206 w23 ho24 hb hg_ hnew_; clear hg_ hnew_; (first | rw [← Ny205.out] at ho24 | (simp only [Int.reduceToNat] at ho24; rw [← Ny205.out] at ho24) | (simp only [Int.toNat_natCast] at ho24; rw [← Ny205.out] at ho24)); replace HO_5 := am (Kd.S_elder' b10_ (Kd.R_base ho24) hb); have HO207 := am (Kd.R_lower ho24 (below_size bel)); replace HB := am (below_step bel hb); clear hb ho24; have p20 : 0 ≤ (x25_2 : Int) := of_decide_eq_true ad; have q20 : (x25_2 : Int) < ((x5_2.length : Int) : Int) := of_decide_eq_true ad; obtain ⟨go20, co20, eo20, gb20, gl20, cl20, HG20⟩ := Kd.S_form HO_5.out (by omega); (first | cases eo20 | (injection eo20 with ea_ en_ ec_; (first | subst ea_ | (injection ea_ with ea_; subst ea_)); subst ec_; clear en_)); have GB20 := Aside0.mk gb20; have GG20 := am HG20; clear gb20 gl20 HG20; obtain ⟨_, ce20, hcl20, hM20, hcc20, hfr20, _, _⟩ := Kd.S_elem HO_5.out [] (x25_2 : Int) p20 q20; obtain ⟨ve20_0, rfl, ge20_0⟩ := hM20; have hx20_0 := hcc20 0 _ rfl; have hf20_0 := hfr20 0; (try simp only [show ((Kd.slice 3 (Kd.int .i64))).sz = 1 from rfl, Nat.mul_one, Nat.add_zero] at hx20_0); (try simp only [show ((Kd.slice 3 (Kd.int .i64))).sz = 1 from rfl, Nat.mul_one, Nat.add_zero] at hf20_0); clear hcl20 hcc20 hfr20; (try clear hM20); replace p20 := eq_true p20; replace q20 := eq_true q20; have n_ := am (Kd.S_mono (ok' := (fun k_ => some k_ ≠ (v206 : Value).ownBlock)) HO_5.out (fun k_ hk => hk.2)); clear HO_5; have HO_5 := n_; clear n_; have HX25 := am (show Kd.S (Kd.slice 3 (Kd.int .i64)) 86 w23 w.heap.size (fun k_ => ((fun _ => True)) k_ ∧ ¬ ((fun k_ => some k_ = (v206 : Value).ownBlock)) k_) (.slice (some ⟨go20, 0, none⟩) x5_2.length co13) x5_2 from b6_); obtain ⟨oki25, ce25, hcl25, hM25, hcc25, hfr25, hoki25, hH25⟩ := Kd.S_elem HX25.out [] (x25_2 : Int) (of_decide_eq_true ad) b1_; obtain ⟨ve25_0, rfl, ge25_0⟩ := hM25; have HP25 := Kd.S_seg hH25 (of_decide_eq_true ad) b1_ (seg := [v206]) (j := 0) (show 1 ≤ 1 from by decide) (x' := y205) (Kd.M_row (Kd.R_mono (Kd.R_tight rfl (Kd.R_mono (ok' := fun k_ => ((fun _ => True)) k_ ∧ k_ ≠ go20) (Kd.R_apart' (HO207.out) (Kd.S_typed HO_5.out) (by decide)) (fun k_ hk => ⟨trivial, fun e_ => (hk.2) (by rw [e_]; rfl)⟩))) (fun _ h_ => Or.inr (h_)))) (fun _ hk => hk) (fun k_ hk_ => ((Kd.R_mono (ok' := fun k_ => ((fun _ => True)) k_ ∧ k_ ≠ go20) (Kd.R_apart' (HO207.out) (Kd.S_typed HO_5.out) (by decide)) (fun k_ hk => ⟨trivial, fun e_ => (hk.2) (by rw [e_]; rfl)⟩))).1 k_ hk_.symm); have hx25_0 := hcc25 0 _ rfl; (try simp only [show ((Kd.slice 3 (Kd.int .i64))).sz = 1 from rfl, Nat.mul_one, Nat.add_zero] at hx25_0); have hf25_0 := hfr25 0; (try simp only [show ((Kd.slice 3 (Kd.int .i64))).sz = 1 from rfl, Nat.mul_one, Nat.add_zero] at hf25_0); clear hcl25 hcc25 hfr25 hoki25 hH25; (try clear hM25); (try simp only [show ((Kd.slice 3 (Kd.int .i64))).sz = 1 from rfl, Nat.mul_one, Nat.add_zero] at HP25)) | ((with_reducible refine gate_store (t := 86) (p := 34) rfl ?_); (try (rw [drewN_self w23]; generalize hq_ : World.drewN w23 _ = w23; have n0_ := am (Kd.S_at hq_ HO_5.out); have n1_ := am (below_at hq_ HB.out); clear hq_ HO_5 HB; have HO_5 := n0_; have HB := n1_; clear n0_ n1_; (try (have n_ := am (Kd.S_mono (ok' := (fun k_ => some k_ ≠ (v206 : Value).ownBlock)) HO_5.out (fun k_ hk => hk.2)); clear HO_5; have HO_5 := n_; clear n_)); (try (have HX25 := am (show Kd.S (Kd.slice 3 (Kd.int .i64)) 86 w23 w.heap.size (fun k_ => ((fun _ => True)) k_ ∧ ¬ ((fun k_ => some k_ = (v206 : Value).ownBlock)) k_) (.slice (some ⟨go20, 0, none⟩) x5_2.length co13) x5_2 from b6_))); (try (obtain ⟨oki25, ce25, hcl25, hM25, hcc25, hfr25, hoki25, hH25⟩ := Kd.S_elem HX25.out [] (x25_2 : Int) (of_decide_eq_true ad) b1_)); (try (obtain ⟨ve25_0, rfl, ge25_0⟩ := hM25)); (try (have HP25 := Kd.S_seg hH25 (of_decide_eq_true ad) b1_ (seg := [v206]) (j := 0) (show 1 ≤ 1 from by decide) (x' := y205) (Kd.M_row (Kd.R_mono (Kd.R_tight rfl (Kd.R_mono (ok' := fun k_ => ((fun _ => True)) k_ ∧ k_ ≠ go20) (Kd.R_apart' (HO207.out) (Kd.S_typed HO_5.out) (by decide)) (fun k_ hk => ⟨trivial, fun e_ => (hk.2) (by rw [e_]; rfl)⟩))) (fun _ h_ => Or.inr (h_)))) (fun _ hk => hk) (fun k_ hk_ => ((Kd.R_mono (ok' := fun k_ => ((fun _ => True)) k_ ∧ k_ ≠ go20) (Kd.R_apart' (HO207.out) (Kd.S_typed HO_5.out) (by decide)) (fun k_ hk => ⟨trivial, fun e_ => (hk.2) (by rw [e_]; rfl)⟩))).1 k_ hk_.symm))); (try (have hx25_0 := hcc25 0 _ rfl)); (try (try simp only [show ((Kd.slice 3 (Kd.int .i64))).sz = 1 from rfl, Nat.mul_one, Nat.add_zero] at hx25_0)); (try (have hf25_0 := hfr25 0)); (try (try simp only [show ((Kd.slice 3 (Kd.int .i64))).sz = 1 from rfl, Nat.mul_one, Nat.add_zero] at hf25_0)); (try (clear hcl25 hcc25 hfr25 hoki25 hH25; (try clear hM25))); (try (try simp only [show ((Kd.slice 3 (Kd.int .i64))).sz = 1 from rfl, Nat.mul_one, Nat.add_zero] at HP25)))); have hcs_ := (by obtain ⟨A_, c_, e_⟩ := Kd.R_slice HO207.out; rw [e_]; rfl : Value.cells v206 = #[v206]); unfold Value.cells at hcs_; have hst_ := (by obtain ⟨A_, c_, e_⟩ := Kd.R_slice HO207.out; intro a_ w_ m_; rw [e_]; exact run_store_slice _ _ _ _ _ _ _ : ∀ (a_ : Addr) (w_ : World) (m_ : Mode), (store a_ v206 m_).run Try.prog w_ = stored Try.prog w_ a_ v206 m_); refine store_event (t := 86) (p := 34) (v := ?vo_w26) (w1 := (w23.setCell ⟨go20, (x25_2 : Int).toNat, none⟩ (v206))) ?hg ?ho ?hn ?hr ?_; (case ho => rfl); (case hg => rfl); (case hn => rfl); (case hr => first | (go_simp; done) | (go_simp; rfl)); intro w26 hw; have hg : w23.grownBy w26 (some go20) := (by rw [hw]; exact HP25.2); have hp_ : Kd.S (Kd.slice 3 (Kd.int .i64)) 86 w26 w.heap.size (fun _ => True) (.slice (some ⟨go20, 0, none⟩) x5_2.length co13) y208 := (by rw [hw, Ny208.out]; exact HP25.1); clear HP25; replace HO_5 := am (hp_); replace HB := am ((by rw [hw]; exact below_set (HB.out) GB20.out : Below w.heap.size w w26)); clear HO207; clear hg hw hp_; have p209 : 0 ≤ (x25_2 : Int) := of_decide_eq_true ad; have q209 : x25_2 < (y208.length : Int) := b20_; have ql209 : ((x25_2 : Int) < ((x5_2.length : Int) : Int)) = True := eq_true (of_decide_eq_true ad); obtain ⟨ad209, A209_0, c209_0, e209, hx209_0, hl209_0, hi209_0⟩ := at_L2 (Kd.S_reads' HO_5.out).2.2 x25_2 p209 q209; obtain rfl : (⟨go20, 0, none⟩ : Addr) = ad209 := (by injection e209); obtain ⟨ce209, hce209, hMe209, hcc209⟩ := Kd.S_get HO_5.out [] x25_2 p209 b33_; obtain ⟨ve209_0, rfl, ge209_0⟩ := hMe209; have hv209_0 := hcc209 0 _ rfl; rw [Nat.add_zero, show ((Kd.slice 3 (Kd.int .i64))).sz = 1 from rfl, Nat.mul_one] at hv209_0; replace hv209_0 := Option.some.inj (hv209_0.symm.trans hx209_0); rw [hv209_0] at ge209_0; have HL209_0 := am (show Kd.R (Kd.int .i64) 3 _ _ _ _ (rd_L2 y208 x25_2) from ge209_0); clear hv209_0 ge209_0; have HX209_0 := am hx209_0; clear hcc209 hce209; (first | simp only [add_plain] at hx209_0 | simp only [add_at] at hx209_0 | simp only [Addr.add, Nat.zero_add] at hx209_0 | skip); have HR209_0 := am hi209_0; have HC209_0 := am hl209_0; clear hi209_0 hl209_0; replace p209 := eq_true p209; replace q209 := eq_true q209; have p22 : 0 ≤ (0 : Int) := (by omega); have q22 : (0 : Int) < (((rd_L2 y208 x25_2).length : Int) : Int) := of_decide_eq_true ad; have qi22 : (0 < (rd_L2 y208 x25_2).length) = True := eq_true (by omega); obtain ⟨go22, co22, eo22, gb22, gl22, cl22, HG22⟩ := Kd.R_form HL209_0.out (by omega); (first | cases eo22 | (injection eo22 with ea_ en_ ec_; (first | subst ea_ | (injection ea_ with ea_; subst ea_)); subst ec_; clear en_)); have GB22 := Aside0.mk gb22; have GG22 := am HG22; clear gb22 gl22 HG22; obtain ⟨hx22_0, hf22_0⟩ := Kd.R_celln 0 HL209_0.out (0 : Int) p22 q22; (try rw [show ((0 : Int)).toNat = 0 from rfl] at hx22_0); (try simp only [Nat.reduceMul, Nat.zero_mul, Nat.zero_add, Nat.reduceAdd] at hx22_0); (try rw [show ((0 : Int)).toNat = 0 from rfl] at hf22_0); (try simp only [Nat.reduceMul, Nat.zero_mul, Nat.zero_add, Nat.reduceAdd] at hf22_0); replace p22 := eq_true p22; replace q22 := eq_true q22; have hq27 : (x25_2 : Int) < (y208.length : Int) := b11_; obtain ⟨oki27, ce27, hcl27, hM27, hcc27, hok27, hbk27⟩ := Kd.S_borrow HO_5.out [] (x25_2 : Int) (of_decide_eq_true ad) b34_; obtain ⟨ve27_0, rfl, ge27_0⟩ := hM27; have hv27 := hcc27 0 _ rfl; rw [Nat.add_zero, show ((Kd.slice 3 (Kd.int .i64))).sz = 1 from rfl, Nat.mul_one] at hv27; replace hv27 := Option.some.inj (hv27.symm.trans HX209_0.out); subst hv27; clear hcc27 hcl27; replace ge27_0 := (show Kd.R (Kd.int .i64) 3 _ _ _ _ (rd_L2 y208 x25_2) from ge27_0); have HP27 := Kd.R_putg ge27_0 (0 : Int) x25_2) | ((with_reducible refine gate_store (t := 3) (p := 40) rfl ?_); (try (rw [drewN_self w26]; generalize hq_ : World.drewN w26 _ = w26; have n0_ := am (Kd.S_at hq_ HO_5.out); have n1_ := am (Kd.R_at hq_ HL236.out); have n2_ := am (below_at hq_ HB.out); clear hq_ HO_5 HL236 HB; have HO_5 := n0_; have HL236 := n1_; have HB := n2_; clear n0_ n1_ n2_; (try (have hq27 : (x25_2 : Int) < (y208.length : Int) := b11_)); (try (obtain ⟨oki27, ce27, hcl27, hM27, hcc27, hok27, hbk27⟩ := Kd.S_borrow HO_5.out [] (x25_2 : Int) (of_decide_eq_true ad) hq27)); (try (obtain ⟨ve27_0, rfl, ge27_0⟩ := hM27)); (try (have hv27 := hcc27 0 _ rfl)); (try (rw [Nat.add_zero, show ((Kd.slice 3 (Kd.int .i64))).sz = 1 from rfl, Nat.mul_one] at hv27)); (try (replace hv27 := Option.some.inj (hv27.symm.trans HX209_0.out))); (try (subst hv27)); (try (clear hcc27 hcl27)); (try (replace ge27_0 := (show Kd.R (Kd.int .i64) 3 _ _ _ _ (rd_L2 y208 x25_2) from ge27_0))); (try (have HP27 := Kd.R_putg ge27_0 (0 : Int) x25_2)))); refine store_event (t := 3) (p := 40) (v := ?vo_w28) (w1 := (w26.setCell ⟨go22, 0, none⟩ (.int .i64 x25_2))) ?hg ?ho ?hn ?hr ?_; (case ho => rfl); (case hg => rfl); (case hn => rfl); (case hr => first | (go_simp; done) | (go_simp; rfl)); intro w28 hw; have hg : w26.grownBy w28 (some go22) := (by rw [hw]; exact HP27.2); have hz_ : Kd.R (Kd.int .i64) 3 w28 w.heap.size oki27 (.slice (some ⟨go22, 0, none⟩) (rd_L2 y208 x25_2).length c209_0) y210 := (by rw [hw, Ny210.out]; exact HP27.1); have hp_ : Kd.S (Kd.slice 3 (Kd.int .i64)) 86 w28 w.heap.size (fun _ => True) (.slice (some ⟨go20, 0, none⟩) x5_2.length co13) y212 := b26_; have hm_ := Kd.R_mono hz_ hok27; clear HP27 hbk27; replace HO_5 := am (hp_); replace HB := am ((by rw [hw]; exact below_set (HB.out) GB22.out : Below w.heap.size w w28)); have HL236 := am (hm_); have HC211 := am ((Kd.R_reads' hm_).2.1); clear HL209_0; clear hg hw hp_ hz_ hm_ hok27)); try go_wp2_with (first | ((with_reducible refine gate_dst (N := 33) rfl ?_); refine Kd.R_make (Kd.int .i64) _ 3 rfl (N := 33) rfl 86 _ _ rfl ji15 rfl rfl Try.underlying86 (.int .i64 0) 8 info3 rfl (by decide) (by omega) 0 (ok := fun _ => True) (okp := fun _ => True) rfl (fun _ hk => hk) trivial (of_decide_eq_true ad) (Nat.le_trans (Nat.mul_le_mul_right _ (of_decide_eq_true ad : ji15.toNat ≤ 35184372088832)) (by omega)) (Below.refl _ _) (Nat.le_refl _) ?_; intro v206 w23 ho24 hb hg_ hnew_; clear hg_ hnew_; (first | rw [← Ny205.out] at ho24 | (simp only [Int.reduceToNat] at ho24; rw [← Ny205.out] at ho24) | (simp only [Int.toNat_natCast] at ho24; rw [← Ny205.out] at ho24)); replace HO_5 := am (Kd.S_elder' b10_ (Kd.R_base ho24) hb); have HO207 := am (Kd.R_lower ho24 (below_size bel)); replace HB := am (below_step bel hb); clear hb ho24; have p20 : 0 ≤ (x25_2 : Int) := of_decide_eq_true ad; have q20 : (x25_2 : Int) < ((x5_2.length : Int) : Int) := of_decide_eq_true ad; obtain ⟨go20, co20, eo20, gb20, gl20, cl20, HG20⟩ := Kd.S_form HO_5.out (by omega); (first | cases eo20 | (injection eo20 with ea_ en_ ec_; (first | subst ea_ | (injection ea_ with ea_; subst ea_)); subst ec_; clear en_)); have GB20 := Aside0.mk gb20; have GG20 := am HG20; clear gb20 gl20 HG20; obtain ⟨_, ce20, hcl20, hM20, hcc20, hfr20, _, _⟩ := Kd.S_elem HO_5.out [] (x25_2 : Int) p20 q20; obtain ⟨ve20_0, rfl, ge20_0⟩ := hM20; have hx20_0 := hcc20 0 _ rfl; have hf20_0 := hfr20 0; (try simp only [show ((Kd.slice 3 (Kd.int .i64))).sz = 1 from rfl, Nat.mul_one, Nat.add_zero] at hx20_0); (try simp only [show ((Kd.slice 3 (Kd.int .i64))).sz = 1 from rfl, Nat.mul_one, Nat.add_zero] at hf20_0); clear hcl20 hcc20 hfr20; (try clear hM20); replace p20 := eq_true p20; replace q20 := eq_true q20; have n_ := am (Kd.S_mono (ok' := (fun k_ => some k_ ≠ (v206 : Value).ownBlock)) HO_5.out (fun k_ hk => hk.2)); clear HO_5; have HO_5 := n_; clear n_; have HX25 := am (show Kd.S (Kd.slice 3 (Kd.int .i64)) 86 w23 w.heap.size (fun k_ => ((fun _ => True)) k_ ∧ ¬ ((fun k_ => some k_ = (v206 : Value).ownBlock)) k_) (.slice (some ⟨go20, 0, none⟩) x5_2.length co13) x5_2 from b6_); obtain ⟨oki25, ce25, hcl25, hM25, hcc25, hfr25, hoki25, hH25⟩ := Kd.S_elem HX25.out [] (x25_2 : Int) (of_decide_eq_true ad) b1_; obtain ⟨ve25_0, rfl, ge25_0⟩ := hM25; have HP25 := Kd.S_seg hH25 (of_decide_eq_true ad) b1_ (seg := [v206]) (j := 0) (show 1 ≤ 1 from by decide) (x' := y205) (Kd.M_row (Kd.R_mono (Kd.R_tight rfl (Kd.R_mono (ok' := fun k_ => ((fun _ => True)) k_ ∧ k_ ≠ go20) (Kd.R_apart' (HO207.out) (Kd.S_typed HO_5.out) (by decide)) (fun k_ hk => ⟨trivial, fun e_ => (hk.2) (by rw [e_]; rfl)⟩))) (fun _ h_ => Or.inr (h_)))) (fun _ hk => hk) (fun k_ hk_ => ((Kd.R_mono (ok' := fun k_ => ((fun _ => True)) k_ ∧ k_ ≠ go20) (Kd.R_apart' (HO207.out) (Kd.S_typed HO_5.out) (by decide)) (fun k_ hk => ⟨trivial, fun e_ => (hk.2) (by rw [e_]; rfl)⟩))).1 k_ hk_.symm); have hx25_0 := hcc25 0 _ rfl; (try simp only [show ((Kd.slice 3 (Kd.int .i64))).sz = 1 from rfl, Nat.mul_one, Nat.add_zero] at hx25_0); have hf25_0 := hfr25 0; (try simp only [show ((Kd.slice 3 (Kd.int .i64))).sz = 1 from rfl, Nat.mul_one, Nat.add_zero] at hf25_0); clear hcl25 hcc25 hfr25 hoki25 hH25; (try clear hM25); (try simp only [show ((Kd.slice 3 (Kd.int .i64))).sz = 1 from rfl, Nat.mul_one, Nat.add_zero] at HP25)) | ((with_reducible refine gate_store (t := 86) (p := 34) rfl ?_); (try (rw [drewN_self w23]; generalize hq_ : World.drewN w23 _ = w23; have n0_ := am (Kd.S_at hq_ HO_5.out); have n1_ := am (below_at hq_ HB.out); clear hq_ HO_5 HB; have HO_5 := n0_; have HB := n1_; clear n0_ n1_; (try (have n_ := am (Kd.S_mono (ok' := (fun k_ => some k_ ≠ (v206 : Value).ownBlock)) HO_5.out (fun k_ hk => hk.2)); clear HO_5; have HO_5 := n_; clear n_)); (try (have HX25 := am (show Kd.S (Kd.slice 3 (Kd.int .i64)) 86 w23 w.heap.size (fun k_ => ((fun _ => True)) k_ ∧ ¬ ((fun k_ => some k_ = (v206 : Value).ownBlock)) k_) (.slice (some ⟨go20, 0, none⟩) x5_2.length co13) x5_2 from b6_))); (try (obtain ⟨oki25, ce25, hcl25, hM25, hcc25, hfr25, hoki25, hH25⟩ := Kd.S_elem HX25.out [] (x25_2 : Int) (of_decide_eq_true ad) b1_)); (try (obtain ⟨ve25_0, rfl, ge25_0⟩ := hM25)); (try (have HP25 := Kd.S_seg hH25 (of_decide_eq_true ad) b1_ (seg := [v206]) (j := 0) (show 1 ≤ 1 from by decide) (x' := y205) (Kd.M_row (Kd.R_mono (Kd.R_tight rfl (Kd.R_mono (ok' := fun k_ => ((fun _ => True)) k_ ∧ k_ ≠ go20) (Kd.R_apart' (HO207.out) (Kd.S_typed HO_5.out) (by decide)) (fun k_ hk => ⟨trivial, fun e_ => (hk.2) (by rw [e_]; rfl)⟩))) (fun _ h_ => Or.inr (h_)))) (fun _ hk => hk) (fun k_ hk_ => ((Kd.R_mono (ok' := fun k_ => ((fun _ => True)) k_ ∧ k_ ≠ go20) (Kd.R_apart' (HO207.out) (Kd.S_typed HO_5.out) (by decide)) (fun k_ hk => ⟨trivial, fun e_ => (hk.2) (by rw [e_]; rfl)⟩))).1 k_ hk_.symm))); (try (have hx25_0 := hcc25 0 _ rfl)); (try (try simp only [show ((Kd.slice 3 (Kd.int .i64))).sz = 1 from rfl, Nat.mul_one, Nat.add_zero] at hx25_0)); (try (have hf25_0 := hfr25 0)); (try (try simp only [show ((Kd.slice 3 (Kd.int .i64))).sz = 1 from rfl, Nat.mul_one, Nat.add_zero] at hf25_0)); (try (clear hcl25 hcc25 hfr25 hoki25 hH25; (try clear hM25))); (try (try simp only [show ((Kd.slice 3 (Kd.int .i64))).sz = 1 from rfl, Nat.mul_one, Nat.add_zero] at HP25)))); have hcs_ := (by obtain ⟨A_, c_, e_⟩ := Kd.R_slice HO207.out; rw [e_]; rfl : Value.cells v206 = #[v206]); unfold Value.cells at hcs_; have hst_ := (by obtain ⟨A_, c_, e_⟩ := Kd.R_slice HO207.out; intro a_ w_ m_; rw [e_]; exact run_store_slice _ _ _ _ _ _ _ : ∀ (a_ : Addr) (w_ : World) (m_ : Mode), (store a_ v206 m_).run Try.prog w_ = stored Try.prog w_ a_ v206 m_); refine store_event (t := 86) (p := 34) (v := ?vo_w26) (w1 := (w23.setCell ⟨go20, (x25_2 : Int).toNat, none⟩ (v206))) ?hg ?ho ?hn ?hr ?_; (case ho => rfl); (case hg => rfl); (case hn => rfl); (case hr => first | (go_simp; done) | (go_simp; rfl)); intro w26 hw; have hg : w23.grownBy w26 (some go20) := (by rw [hw]; exact HP25.2); have hp_ : Kd.S (Kd.slice 3 (Kd.int .i64)) 86 w26 w.heap.size (fun _ => True) (.slice (some ⟨go20, 0, none⟩) x5_2.length co13) y208 := (by rw [hw, Ny208.out]; exact HP25.1); clear HP25; replace HO_5 := am (hp_); replace HB := am ((by rw [hw]; exact below_set (HB.out) GB20.out : Below w.heap.size w w26)); clear HO207; clear hg hw hp_; have p209 : 0 ≤ (x25_2 : Int) := of_decide_eq_true ad; have q209 : x25_2 < (y208.length : Int) := b20_; have ql209 : ((x25_2 : Int) < ((x5_2.length : Int) : Int)) = True := eq_true (of_decide_eq_true ad); obtain ⟨ad209, A209_0, c209_0, e209, hx209_0, hl209_0, hi209_0⟩ := at_L2 (Kd.S_reads' HO_5.out).2.2 x25_2 p209 q209; obtain rfl : (⟨go20, 0, none⟩ : Addr) = ad209 := (by injection e209); obtain ⟨ce209, hce209, hMe209, hcc209⟩ := Kd.S_get HO_5.out [] x25_2 p209 b33_; obtain ⟨ve209_0, rfl, ge209_0⟩ := hMe209; have hv209_0 := hcc209 0 _ rfl; rw [Nat.add_zero, show ((Kd.slice 3 (Kd.int .i64))).sz = 1 from rfl, Nat.mul_one] at hv209_0; replace hv209_0 := Option.some.inj (hv209_0.symm.trans hx209_0); rw [hv209_0] at ge209_0; have HL209_0 := am (show Kd.R (Kd.int .i64) 3 _ _ _ _ (rd_L2 y208 x25_2) from ge209_0); clear hv209_0 ge209_0; have HX209_0 := am hx209_0; clear hcc209 hce209; (first | simp only [add_plain] at hx209_0 | simp only [add_at] at hx209_0 | simp only [Addr.add, Nat.zero_add] at hx209_0 | skip); have HR209_0 := am hi209_0; have HC209_0 := am hl209_0; clear hi209_0 hl209_0; replace p209 := eq_true p209; replace q209 := eq_true q209; have p22 : 0 ≤ (0 : Int) := (by omega); have q22 : (0 : Int) < (((rd_L2 y208 x25_2).length : Int) : Int) := of_decide_eq_true ad; have qi22 : (0 < (rd_L2 y208 x25_2).length) = True := eq_true (by omega); obtain ⟨go22, co22, eo22, gb22, gl22, cl22, HG22⟩ := Kd.R_form HL209_0.out (by omega); (first | cases eo22 | (injection eo22 with ea_ en_ ec_; (first | subst ea_ | (injection ea_ with ea_; subst ea_)); subst ec_; clear en_)); have GB22 := Aside0.mk gb22; have GG22 := am HG22; clear gb22 gl22 HG22; obtain ⟨hx22_0, hf22_0⟩ := Kd.R_celln 0 HL209_0.out (0 : Int) p22 q22; (try rw [show ((0 : Int)).toNat = 0 from rfl] at hx22_0); (try simp only [Nat.reduceMul, Nat.zero_mul, Nat.zero_add, Nat.reduceAdd] at hx22_0); (try rw [show ((0 : Int)).toNat = 0 from rfl] at hf22_0); (try simp only [Nat.reduceMul, Nat.zero_mul, Nat.zero_add, Nat.reduceAdd] at hf22_0); replace p22 := eq_true p22; replace q22 := eq_true q22; have hq27 : (x25_2 : Int) < (y208.length : Int) := b11_; obtain ⟨oki27, ce27, hcl27, hM27, hcc27, hok27, hbk27⟩ := Kd.S_borrow HO_5.out [] (x25_2 : Int) (of_decide_eq_true ad) b34_; obtain ⟨ve27_0, rfl, ge27_0⟩ := hM27; have hv27 := hcc27 0 _ rfl; rw [Nat.add_zero, show ((Kd.slice 3 (Kd.int .i64))).sz = 1 from rfl, Nat.mul_one] at hv27; replace hv27 := Option.some.inj (hv27.symm.trans HX209_0.out); subst hv27; clear hcc27 hcl27; replace ge27_0 := (show Kd.R (Kd.int .i64) 3 _ _ _ _ (rd_L2 y208 x25_2) from ge27_0); have HP27 := Kd.R_putg ge27_0 (0 : Int) x25_2) | ((with_reducible refine gate_store (t := 3) (p := 40) rfl ?_); (try (rw [drewN_self w26]; generalize hq_ : World.drewN w26 _ = w26; have n0_ := am (Kd.S_at hq_ HO_5.out); have n1_ := am (Kd.R_at hq_ HL236.out); have n2_ := am (below_at hq_ HB.out); clear hq_ HO_5 HL236 HB; have HO_5 := n0_; have HL236 := n1_; have HB := n2_; clear n0_ n1_ n2_; (try (have hq27 : (x25_2 : Int) < (y208.length : Int) := b11_)); (try (obtain ⟨oki27, ce27, hcl27, hM27, hcc27, hok27, hbk27⟩ := Kd.S_borrow HO_5.out [] (x25_2 : Int) (of_decide_eq_true ad) hq27)); (try (obtain ⟨ve27_0, rfl, ge27_0⟩ := hM27)); (try (have hv27 := hcc27 0 _ rfl)); (try (rw [Nat.add_zero, show ((Kd.slice 3 (Kd.int .i64))).sz = 1 from rfl, Nat.mul_one] at hv27)); (try (replace hv27 := Option.some.inj (hv27.symm.trans HX209_0.out))); (try (subst hv27)); (try (clear hcc27 hcl27)); (try (replace ge27_0 := (show Kd.R (Kd.int .i64) 3 _ _ _ _ (rd_L2 y208 x25_2) from ge27_0))); (try (have HP27 := Kd.R_putg ge27_0 (0 : Int) x25_2)))); refine store_event (t := 3) (p := 40) (v := ?vo_w28) (w1 := (w26.setCell ⟨go22, 0, none⟩ (.int .i64 x25_2))) ?hg ?ho ?hn ?hr ?_; (case ho => rfl); (case hg => rfl); (case hn => rfl); (case hr => first | (go_simp; done) | (go_simp; rfl)); intro w28 hw; have hg : w26.grownBy w28 (some go22) := (by rw [hw]; exact HP27.2); have hz_ : Kd.R (Kd.int .i64) 3 w28 w.heap.size oki27 (.slice (some ⟨go22, 0, none⟩) (rd_L2 y208 x25_2).length c209_0) y210 := (by rw [hw, Ny210.out]; exact HP27.1); have hp_ : Kd.S (Kd.slice 3 (Kd.int .i64)) 86 w28 w.heap.size (fun _ => True) (.slice (some ⟨go20, 0, none⟩) x5_2.length co13) y212 := b26_; have hm_ := Kd.R_mono hz_ hok27; clear HP27 hbk27; replace HO_5 := am (hp_); replace HB := am ((by rw [hw]; exact below_set (HB.out) GB22.out : Below w.heap.size w w28)); have HL236 := am (hm_); have HC211 := am ((Kd.R_reads' hm_).2.1); clear HL209_0; clear hg hw hp_ hz_ hm_ hok27)))
              (try simp only [← hl5_2])
              go_roundg k2
              case measure => have := HJ2.out; have := HK2.out; omega
              case rel => exact ⟨(y212), (wrap64 (x25_2 + 1)), sq, H', ⟨by have := HJ2.out; have := HK2.out; omega⟩, ⟨b36_⟩, ⟨bel⟩⟩
             ·rw [if_neg c21] at H
              exact absurd H (by simp)
            ·rw [if_neg c19] at H
             exact absurd H (by simp)
           ·rw [if_neg c18] at H
            exact absurd H (by simp)
          ·rw [if_neg c17] at H
           exact absurd H (by simp)
         ·rw [if_neg c16] at H
          exact absurd H (by simp)
        ·rw [if_neg c14] at H; have c14b0 := decide_eq_false c14
         try have c14b8 := c14b0
         try simp only [hl5_2] at c14b8
         clear c14
         by_cases c29 : 0 < (x5_2.length : Int)
         ·rw [if_pos c29] at H; have c29b0 := decide_eq_true c29
          try have c29b8 := c29b0
          try simp only [hl5_2] at c29b8
          have c29b1 : decide (0 < x5_2.length) = true := decide_eq_true (by omega)
          clear c29
          have H' := am H
          clear H
          have p213 : 0 ≤ (0 : Int) := (by omega)
          have q213 : 0 < (x5_2.length : Int) := of_decide_eq_true ad
          obtain ⟨ad213, A213_0, c213_0, e213, hx213_0, hl213_0, hi213_0⟩ := at_L2 (Kd.S_reads' HO_5.out).2.2 0 p213 q213
          cases e213
          obtain ⟨ce213, hce213, hMe213, hcc213⟩ := Kd.S_get HO_5.out [] 0 p213 (by first | exact q213 | exact of_decide_eq_true ad | (have e_ := (Kd.S_reads' HO_5.out).1; omega))
          obtain ⟨ve213_0, rfl, ge213_0⟩ := hMe213; have hv213_0 := hcc213 0 _ rfl; rw [Nat.add_zero, show ((Kd.slice 3 (Kd.int .i64))).sz = 1 from rfl, Nat.mul_one] at hv213_0; replace hv213_0 := Option.some.inj (hv213_0.symm.trans hx213_0); rw [hv213_0] at ge213_0; have HL213_0 := am (show Kd.R (Kd.int .i64) 3 _ _ _ _ (rd_L2 x5_2 0) from ge213_0); clear hv213_0 ge213_0; have HX213_0 := am hx213_0; clear hcc213 hce213
          have qi213 : (0 < x5_2.length) = True := eq_true (by omega)
          (try rw [show ((0 : Int)).toNat = 0 from rfl] at hx213_0)
          (try rw [Addr.add_zero'] at hx213_0)
          have HR213_0 := am hi213_0; have HC213_0 := am hl213_0; clear hi213_0 hl213_0; replace p213 := eq_true p213; replace q213 := eq_true q213; go_wp2
          repeat (go_quiet (fail); try go_wp2)
          go_loopg [46] k2 (fun kq v46 w' => ∃ (x5_3 : List (List Int)) (x46_3 : Int), v46 = .int .i64 x46_3 ∧ Aside0 (impl_Far.l1 kq a0 a1 x5_3 ((rd_L2 x5_2 0).length : Int) x46_3 = some r) ∧ Aside0 (kq ≤ k2) ∧ Aside0 (Kd.S (Kd.slice 3 (Kd.int .i64)) 86 w' w.heap.size (fun _ => True) (.slice (some ad213) x5_2.length co13) x5_3) ∧ Aside0 (Below w.heap.size w w'))
          case atStart => exact ⟨(x5_2), (0), sq, H', ⟨Nat.le_refl _⟩, ⟨b36_⟩, ⟨bel⟩⟩
          case round =>
           clear H'; (try clear c1); (try clear c2); (try clear p2); (try clear q2); (try clear hx2); (try clear qi2); (try clear hf2); (try clear c5); (try clear p6); (try clear c7); (try clear c9); (try clear c9b0); (try clear c9b1); (try clear c10); (try clear c10b0); (try clear c10b1); (try clear c14); (try clear c14b0); (try clear c16); (try clear c16b0); (try clear c16b1); (try clear c17); (try clear c17b0); (try clear c17b1); (try clear c18); (try clear c18b0); (try clear c19); (try clear c19b0); (try clear c20); (try clear p20); (try clear q20); (try clear hx20); (try clear hf20); (try clear c21); (try clear c21b0); (try clear c21b1); (try clear p21); (try clear q21); (try clear hx21); (try clear qi21); (try clear p22); (try clear q22); (try clear hx22); (try clear qi22); (try clear hf22); (try clear c23); (try clear c25); (try clear hx25); (try clear hf25); (try clear c27); (try clear q27); (try clear c29); (try clear c29b0); (try clear c29b1); (try clear hx209_0); (try clear hx20_0); (try clear hx213_0); (try clear hx22_0); (try clear hx25_0); (try clear p2); (try clear p20); (try clear p209); (try clear p213); (try clear p22); (try clear p6); (try clear q20); (try clear q209); (try clear q213); (try clear q22); obtain ⟨x5_3, x46_3, rfl, HA, HK3, HO_5, HB⟩ := hrel; have hl5_3 := (Kd.S_reads' HO_5.out).1; rw [hl5_3] at HO_5
           (try simp only [hl5_3])
           cases gk with
           | zero => exact absurd HA.out (by simp [impl_Far.l1])
           | succ k3 =>
            have H := HA.out; clear HA
            simp only [impl_Far.l1] at H
            by_cases c30 : x46_3 < ((rd_L2 x5_2 0).length : Int)
            ·rw [if_pos c30] at H; have c30b0 := decide_eq_true c30
             try have c30b8 := c30b0
             try simp only [hl5_2] at c30b8
             try simp only [hl5_3] at c30b8
             clear c30
             by_cases c31 : 0 < (x5_3.length : Int)
             ·rw [if_pos c31] at H; have c31b0 := decide_eq_true c31
              try have c31b8 := c31b0
              try simp only [hl5_2] at c31b8
              try simp only [hl5_3] at c31b8
              have c31b1 : decide (0 < x5_3.length) = true := decide_eq_true (by omega)
              clear c31
              by_cases c32 : 0 ≤ x46_3
              ·rw [if_pos c32] at H; have c32b0 := decide_eq_true c32; clear c32
               by_cases c33 : x46_3 < ((rd_L2 x5_3 0).length : Int)
               ·rw [if_pos c33] at H; have c33b0 := decide_eq_true c33
                try have c33b8 := c33b0
                try simp only [hl5_2] at c33b8
                try simp only [hl5_3] at c33b8
                clear c33; obtain ⟨y215, hy215⟩ : ∃ y_ : List Int, y_ = ((rd_L2 x5_3 0).set (x46_3 : Int).toNat x46_3) := ⟨_, rfl⟩
                replace H : (impl_Far.l1 k3 a0 a1 (x5_3.set (0 : Int).toNat y215) ((rd_L2 x5_2 0).length : Int) (wrap64 (x46_3 + 1))) = some r := by first | (rw [hy215]; with_reducible exact H) | (have H2_ := (Option.bind_some _ _).symm.trans H; rw [hy215]; with_reducible exact H2_) | (have H2_ := (Option.bind_some _ _).symm.trans H; with_reducible exact H2_) | with_reducible exact H | (rw [hy215]; exact H) | exact H
                have Ny215 := am hy215; clear hy215; obtain ⟨y217, hy217⟩ : ∃ y_ : List (List Int), y_ = (x5_3.set (0 : Int).toNat y215) := ⟨_, rfl⟩
                replace H : (impl_Far.l1 k3 a0 a1 y217 ((rd_L2 x5_2 0).length : Int) (wrap64 (x46_3 + 1))) = some r := by first | (rw [hy217]; with_reducible exact H) | (have H2_ := (Option.bind_some _ _).symm.trans H; rw [hy217]; with_reducible exact H2_) | (have H2_ := (Option.bind_some _ _).symm.trans H; with_reducible exact H2_) | with_reducible exact H | (rw [hy217]; exact H) | exact H
                have Ny217 := am hy217; clear hy217
                have H' := am H
                clear H
                have p214 : 0 ≤ (0 : Int) := (by omega)
                have q214 : 0 < (x5_3.length : Int) := of_decide_eq_true ad
                obtain ⟨ad214, A214_0, c214_0, e214, hx214_0, hl214_0, hi214_0⟩ := at_L2 (Kd.S_reads' HO_5.out).2.2 0 p214 q214
                obtain rfl : ad213 = ad214 := (by injection e214)
                obtain ⟨ce214, hce214, hMe214, hcc214⟩ := Kd.S_get HO_5.out [] 0 p214 (by first | exact q214 | exact of_decide_eq_true ad | (have e_ := (Kd.S_reads' HO_5.out).1; omega))
                obtain ⟨ve214_0, rfl, ge214_0⟩ := hMe214; have hv214_0 := hcc214 0 _ rfl; rw [Nat.add_zero, show ((Kd.slice 3 (Kd.int .i64))).sz = 1 from rfl, Nat.mul_one] at hv214_0; replace hv214_0 := Option.some.inj (hv214_0.symm.trans hx214_0); rw [hv214_0] at ge214_0; have HL214_0 := am (show Kd.R (Kd.int .i64) 3 _ _ _ _ (rd_L2 x5_3 0) from ge214_0); clear hv214_0 ge214_0; have HX214_0 := am hx214_0; clear hcc214 hce214
                have qi214 : (0 < x5_3.length) = True := eq_true (by omega)
                (try rw [show ((0 : Int)).toNat = 0 from rfl] at hx214_0)
                (try rw [Addr.add_zero'] at hx214_0)
                have HR214_0 := am hi214_0; have HC214_0 := am hl214_0; clear hi214_0 hl214_0; replace p214 := eq_true p214; replace q214 := eq_true q214
                have p34 : 0 ≤ (x46_3 : Int) := of_decide_eq_true ad
                have q34 : (x46_3 : Int) < (((rd_L2 x5_3 0).length : Int) : Int) := of_decide_eq_true ad
                obtain ⟨go34, co34, eo34, gb34, gl34, cl34, HG34⟩ := Kd.R_form HL214_0.out (by omega)
                (first | cases eo34 | (injection eo34 with ea_ en_ ec_; (first | subst ea_ | (injection ea_ with ea_; subst ea_)); subst ec_; clear en_))
                have GB34 := Aside0.mk gb34; have GG34 := am HG34; clear gb34 gl34 HG34; obtain ⟨hx34_0, hf34_0⟩ := Kd.R_celln 0 HL214_0.out (x46_3 : Int) p34 q34; replace p34 := eq_true p34; replace q34 := eq_true q34
                have hq35 : (0 : Int) < (x5_3.length : Int) := b15_
                obtain ⟨oki35, ce35, hcl35, hM35, hcc35, hok35, hbk35⟩ := Kd.S_borrow HO_5.out [] (0 : Int) (by omega) hq35
                obtain ⟨ve35_0, rfl, ge35_0⟩ := hM35; have hv35 := hcc35 0 _ rfl; rw [Nat.add_zero, show ((Kd.slice 3 (Kd.int .i64))).sz = 1 from rfl, Nat.mul_one] at hv35; replace hv35 := Option.some.inj (hv35.symm.trans HX214_0.out); subst hv35; clear hcc35 hcl35; replace ge35_0 := (show Kd.R (Kd.int .i64) 3 _ _ _ _ (rd_L2 x5_3 0) from ge35_0); have HP35 := Kd.R_putg ge35_0 (x46_3 : Int) x46_3
                go_wp2_with (first | ((with_reducible refine gate_store (t := 3) (p := 54) rfl ?_); (try (rw [drewN_self wr]; generalize hq_ : World.drewN wr _ = wr; have n0_ := am (Kd.S_at hq_ HO_5.out); have n1_ := am (Kd.R_at hq_ HL237.out); have n2_ := am (below_at hq_ HB.out); clear hq_ HO_5 HL237 HB; have HO_5 := n0_; have HL237 := n1_; have HB := n2_; clear n0_ n1_ n2_; (try (have hq35 : (0 : Int) < (x5_3.length : Int) := b15_)); (try (obtain ⟨oki35, ce35, hcl35, hM35, hcc35, hok35, hbk35⟩ := Kd.S_borrow HO_5.out [] (0 : Int) (by omega) hq35)); (try (obtain ⟨ve35_0, rfl, ge35_0⟩ := hM35)); (try (have hv35 := hcc35 0 _ rfl)); (try (rw [Nat.add_zero, show ((Kd.slice 3 (Kd.int .i64))).sz = 1 from rfl, Nat.mul_one] at hv35)); (try (replace hv35 := Option.some.inj (hv35.symm.trans HX214_0.out))); (try (subst hv35)); (try (clear hcc35 hcl35)); (try (replace ge35_0 := (show Kd.R (Kd.int .i64) 3 _ _ _ _ (rd_L2 x5_3 0) from ge35_0))); (try (have HP35 := Kd.R_putg ge35_0 (x46_3 : Int) x46_3)))); refine store_event (t := 3) (p := 54) (v := ?vo_w36) (w1 := (wr.setCell ⟨go34, (x46_3 : Int).toNat, none⟩ (.int .i64 x46_3))) ?hg ?ho ?hn ?hr ?_; (case ho => rfl); (case hg => rfl); (case hn => rfl); (case hr => first | (go_simp; done) | (go_simp; rfl)); intro w36 hw; have hg : wr.grownBy w36 (some go34) := (by rw [hw]; exact HP35.2); have hz_ : Kd.R (Kd.int .i64) 3 w36 w.heap.size oki35 (.slice (some ⟨go34, 0, none⟩) (rd_L2 x5_3 0).length c214_0) y215 := (by rw [hw, Ny215.out]; exact HP35.1); have hp_ : Kd.S (Kd.slice 3 (Kd.int .i64)) 86 w36 w.heap.size (fun _ => True) (.slice (some ad213) x5_3.length co13) y217 := b27_; have hm_ := Kd.R_mono hz_ hok35; clear HP35 hbk35; replace HO_5 := am (hp_); replace HB := am ((by rw [hw]; exact below_set (HB.out) GB34.out : Below w.heap.size w w36)); have HL237 := am (hm_); have HC216 := am ((Kd.R_reads' hm_).2.1); clear HL214_0; clear hg hw hp_ hz_ hm_ hok35))
                repeat (go_quiet (first | ((with_reducible refine gate_store (t := 3) (p := 54) rfl ?_); (try (rw [drewN_self wr]; generalize hq_ : World.drewN wr _ = wr; have n0_ := am (Kd.S_at hq_ HO_5.out); have n1_ := am (Kd.R_at hq_ HL237.out); have n2_ := am (below_at hq_ HB.out); clear hq_ HO_5 HL237 HB; have HO_5 := n0_; have HL237 := n1_; have HB := n2_; clear n0_ n1_ n2_; (try (have hq35 : (0 : Int) < (x5_3.length : Int) := b15_)); (try (obtain ⟨oki35, ce35, hcl35, hM35, hcc35, hok35, hbk35⟩ := Kd.S_borrow HO_5.out [] (0 : Int) (by omega) hq35)); (try (obtain ⟨ve35_0, rfl, ge35_0⟩ := hM35)); (try (have hv35 := hcc35 0 _ rfl)); (try (rw [Nat.add_zero, show ((Kd.slice 3 (Kd.int .i64))).sz = 1 from rfl, Nat.mul_one] at hv35)); (try (replace hv35 := Option.some.inj (hv35.symm.trans HX214_0.out))); (try (subst hv35)); (try (clear hcc35 hcl35)); (try (replace ge35_0 := (show Kd.R (Kd.int .i64) 3 _ _ _ _ (rd_L2 x5_3 0) from ge35_0))); (try (have HP35 := Kd.R_putg ge35_0 (x46_3 : Int) x46_3)))); refine store_event (t := 3) (p := 54) (v := ?vo_w36) (w1 := (wr.setCell ⟨go34, (x46_3 : Int).toNat, none⟩ (.int .i64 x46_3))) ?hg ?ho ?hn ?hr ?_; (case ho => rfl); (case hg => rfl); (case hn => rfl); (case hr => first | (go_simp; done) | (go_simp; rfl)); intro w36 hw; have hg : wr.grownBy w36 (some go34) := (by rw [hw]; exact HP35.2); have hz_ : Kd.R (Kd.int .i64) 3 w36 w.heap.size oki35 (.slice (some ⟨go34, 0, none⟩) (rd_L2 x5_3 0).length c214_0) y215 := (by rw [hw, Ny215.out]; exact HP35.1); have hp_ : Kd.S (Kd.slice 3 (Kd.int .i64)) 86 w36 w.heap.size (fun _ => True) (.slice (some ad213) x5_3.length co13) y217 := b27_; have hm_ := Kd.R_mono hz_ hok35; clear HP35 hbk35; replace HO_5 := am (hp_); replace HB := am ((by rw [hw]; exact below_set (HB.out) GB34.out : Below w.heap.size w w36)); have HL237 := am (hm_); have HC216 := am ((Kd.R_reads' hm_).2.1); clear HL214_0; clear hg hw hp_ hz_ hm_ hok35)); try go_wp2_with (first | ((with_reducible refine gate_store (t := 3) (p := 54) rfl ?_); (try (rw [drewN_self wr]; generalize hq_ : World.drewN wr _ = wr; have n0_ := am (Kd.S_at hq_ HO_5.out); have n1_ := am (Kd.R_at hq_ HL237.out); have n2_ := am (below_at hq_ HB.out); clear hq_ HO_5 HL237 HB; have HO_5 := n0_; have HL237 := n1_; have HB := n2_; clear n0_ n1_ n2_; (try (have hq35 : (0 : Int) < (x5_3.length : Int) := b15_)); (try (obtain ⟨oki35, ce35, hcl35, hM35, hcc35, hok35, hbk35⟩ := Kd.S_borrow HO_5.out [] (0 : Int) (by omega) hq35)); (try (obtain ⟨ve35_0, rfl, ge35_0⟩ := hM35)); (try (have hv35 := hcc35 0 _ rfl)); (try (rw [Nat.add_zero, show ((Kd.slice 3 (Kd.int .i64))).sz = 1 from rfl, Nat.mul_one] at hv35)); (try (replace hv35 := Option.some.inj (hv35.symm.trans HX214_0.out))); (try (subst hv35)); (try (clear hcc35 hcl35)); (try (replace ge35_0 := (show Kd.R (Kd.int .i64) 3 _ _ _ _ (rd_L2 x5_3 0) from ge35_0))); (try (have HP35 := Kd.R_putg ge35_0 (x46_3 : Int) x46_3)))); refine store_event (t := 3) (p := 54) (v := ?vo_w36) (w1 := (wr.setCell ⟨go34, (x46_3 : Int).toNat, none⟩ (.int .i64 x46_3))) ?hg ?ho ?hn ?hr ?_; (case ho => rfl); (case hg => rfl); (case hn => rfl); (case hr => first | (go_simp; done) | (go_simp; rfl)); intro w36 hw; have hg : wr.grownBy w36 (some go34) := (by rw [hw]; exact HP35.2); have hz_ : Kd.R (Kd.int .i64) 3 w36 w.heap.size oki35 (.slice (some ⟨go34, 0, none⟩) (rd_L2 x5_3 0).length c214_0) y215 := (by rw [hw, Ny215.out]; exact HP35.1); have hp_ : Kd.S (Kd.slice 3 (Kd.int .i64)) 86 w36 w.heap.size (fun _ => True) (.slice (some ad213) x5_3.length co13) y217 := b27_; have hm_ := Kd.R_mono hz_ hok35; clear HP35 hbk35; replace HO_5 := am (hp_); replace HB := am ((by rw [hw]; exact below_set (HB.out) GB34.out : Below w.heap.size w w36)); have HL237 := am (hm_); have HC216 := am ((Kd.R_reads' hm_).2.1); clear HL214_0; clear hg hw hp_ hz_ hm_ hok35)))
                (try simp only [← hl5_3])
                go_roundg k3
                case measure => have := HJ2.out; have := HK2.out; have := HK3.out; omega
                case rel => exact ⟨(y217), (wrap64 (x46_3 + 1)), sq, H', ⟨by have := HJ2.out; have := HK2.out; have := HK3.out; omega⟩, ⟨b31_⟩, ⟨bel⟩⟩
               ·rw [if_neg c33] at H
                exact absurd H (by simp)
              ·rw [if_neg c32] at H
               exact absurd H (by simp)
             ·rw [if_neg c31] at H
              exact absurd H (by simp)
            ·rw [if_neg c30] at H; have c30b0 := decide_eq_false c30
             try have c30b8 := c30b0
             try simp only [hl5_2] at c30b8
             try simp only [hl5_3] at c30b8
             clear c30
             have H' := am H
             clear H; go_wp2
             repeat (go_quiet (fail); try go_wp2)
             go_loopg [8] k3 (fun kq v8 w' => ∃ (x5_4 : List (List Int)) (x8_4 : Int), v8 = .int .i64 x8_4 ∧ Aside0 (impl_Far.l2 kq a0 a1 x5_4 x8_4 = some r) ∧ Aside0 (kq ≤ k3) ∧ Aside0 (Kd.S (Kd.slice 3 (Kd.int .i64)) 86 w' w.heap.size (fun _ => True) (.slice (some ad213) x5_3.length co13) x5_4) ∧ Aside0 (Below w.heap.size w w'))
             case atStart => exact ⟨(x5_3), (1), sq, H', ⟨Nat.le_refl _⟩, ⟨b31_⟩, ⟨bel⟩⟩
             case round =>
              clear H'; (try clear c1); (try clear c2); (try clear p2); (try clear q2); (try clear hx2); (try clear qi2); (try clear hf2); (try clear c3); (try clear p3); (try clear q3); (try clear hx3); (try clear hf3); (try clear c5); (try clear p6); (try clear c7); (try clear c9); (try clear c9b0); (try clear c9b1); (try clear c10); (try clear c10b0); (try clear c10b1); (try clear c14); (try clear c14b0); (try clear c16); (try clear c16b0); (try clear c16b1); (try clear c17); (try clear c17b0); (try clear c17b1); (try clear c18); (try clear c18b0); (try clear c19); (try clear c19b0); (try clear c20); (try clear p20); (try clear q20); (try clear hx20); (try clear hf20); (try clear c21); (try clear c21b0); (try clear c21b1); (try clear p21); (try clear q21); (try clear hx21); (try clear qi21); (try clear p22); (try clear q22); (try clear hx22); (try clear qi22); (try clear hf22); (try clear c23); (try clear c25); (try clear hx25); (try clear hf25); (try clear c27); (try clear q27); (try clear c29); (try clear c29b0); (try clear c29b1); (try clear c30); (try clear c30b0); (try clear c31); (try clear c31b0); (try clear c31b1); (try clear c32); (try clear c32b0); (try clear c33); (try clear c33b0); (try clear p34); (try clear q34); (try clear hx34); (try clear hf34); (try clear c35); (try clear q35); (try clear hx209_0); (try clear hx20_0); (try clear hx213_0); (try clear hx214_0); (try clear hx22_0); (try clear hx25_0); (try clear hx34_0); (try clear p2); (try clear p20); (try clear p209); (try clear p21); (try clear p213); (try clear p214); (try clear p22); (try clear p34); (try clear p6); (try clear q2); (try clear q20); (try clear q209); (try clear q21); (try clear q213); (try clear q214); (try clear q22); (try clear q27); (try clear q34); obtain ⟨x5_4, x8_4, rfl, HA, HK4, HO_5, HB⟩ := hrel; have hl5_4 := (Kd.S_reads' HO_5.out).1; rw [hl5_4] at HO_5
              (try simp only [hl5_4])
              cases gk with
              | zero => exact absurd HA.out (by simp [impl_Far.l2])
              | succ k4 =>
               have H := HA.out; clear HA
               simp only [impl_Far.l2] at H
               by_cases c37 : x8_4 ≤ (a0.size : Int)
               ·rw [if_pos c37] at H; have c37b0 := decide_eq_true c37; clear c37
                have H' := am H
                clear H; go_wp2
                repeat (go_quiet (fail); try go_wp2)
                go_loopg [9] k4 (fun kq v9 w' => ∃ (x5_5 : List (List Int)) (x9_5 : Int), v9 = .int .i64 x9_5 ∧ Aside0 (impl_Far.l3 kq a0 a1 x5_5 x8_4 x9_5 = some r) ∧ Aside0 (kq ≤ k4) ∧ Aside0 (Kd.S (Kd.slice 3 (Kd.int .i64)) 86 w' w.heap.size (fun _ => True) (.slice (some ad213) x5_4.length co13) x5_5) ∧ Aside0 (Below w.heap.size w w'))
                case atStart => exact ⟨(x5_4), (1), sq, H', ⟨Nat.le_refl _⟩, ⟨by (try simp only [hl5_2]); (try simp only [hl5_3]); (try simp only [hl5_4]); (with_reducible repeat (first | apply Kd.S_alloc | apply Kd.S_drewN | apply Kd.S_drew)); exact HO_5.out⟩, ⟨bel⟩⟩
                case round =>
                 clear H'; (try clear c1); (try clear c2); (try clear p2); (try clear q2); (try clear hx2); (try clear qi2); (try clear hf2); (try clear c3); (try clear p3); (try clear q3); (try clear hx3); (try clear hf3); (try clear c5); (try clear p6); (try clear c7); (try clear c9); (try clear c9b0); (try clear c9b1); (try clear c10); (try clear c10b0); (try clear c10b1); (try clear c14); (try clear c14b0); (try clear c16); (try clear c16b0); (try clear c16b1); (try clear c17); (try clear c17b0); (try clear c17b1); (try clear c18); (try clear c18b0); (try clear c19); (try clear c19b0); (try clear c20); (try clear p20); (try clear q20); (try clear hx20); (try clear hf20); (try clear c21); (try clear c21b0); (try clear c21b1); (try clear p21); (try clear q21); (try clear hx21); (try clear qi21); (try clear p22); (try clear q22); (try clear hx22); (try clear qi22); (try clear hf22); (try clear c23); (try clear c25); (try clear hx25); (try clear hf25); (try clear c27); (try clear q27); (try clear c29); (try clear c29b0); (try clear c29b1); (try clear c30); (try clear c30b0); (try clear c31); (try clear c31b0); (try clear c31b1); (try clear c32); (try clear c32b0); (try clear c33); (try clear c33b0); (try clear p34); (try clear q34); (try clear hx34); (try clear hf34); (try clear c35); (try clear q35); (try clear c37); (try clear c37b0); (try clear hx209_0); (try clear hx20_0); (try clear hx213_0); (try clear hx214_0); (try clear hx22_0); (try clear hx25_0); (try clear hx34_0); (try clear p2); (try clear p20); (try clear p209); (try clear p21); (try clear p213); (try clear p214); (try clear p22); (try clear p3); (try clear p34); (try clear p6); (try clear q2); (try clear q20); (try clear q209); (try clear q21); (try clear q213); (try clear q214); (try clear q22); (try clear q27); (try clear q3); (try clear q34); (try clear q35); obtain ⟨x5_5, x9_5, rfl, HA, HK5, HO_5, HB⟩ := hrel; have hl5_5 := (Kd.S_reads' HO_5.out).1; rw [hl5_5] at HO_5
                 (try simp only [hl5_5])
                 cases gk with
                 | zero => exact absurd HA.out (by simp [impl_Far.l3])
                 | succ k5 =>
                  have H := HA.out; clear HA
                  simp only [impl_Far.l3] at H
                  by_cases c38 : x9_5 ≤ (a1.size : Int)
                  ·rw [if_pos c38] at H; have c38b0 := decide_eq_true c38; clear c38; obtain ⟨ji39, hji39⟩ : ∃ j_ : Int, (wrap64 (x8_4 - 1)) = j_ := ⟨_, rfl⟩
                   replace H : (if 0 ≤ (ji39) then (if (ji39) < (x5_5.length : Int) then (if 0 ≤ (wrap64 (x9_5 - 1)) then (if (wrap64 (x9_5 - 1)) < ((rd_L2 x5_5 (ji39)).length : Int) then (if (ji39) < (a0.size : Int) then (if (wrap64 (x9_5 - 1)) < (a1.size : Int) then (if (bt a0 (ji39)) = (bt a1 (wrap64 (x9_5 - 1))) then (impl_Far.j5 k5 a0 a1 x5_5 x8_4 x9_5 (rd (rd_L2 x5_5 (ji39)) (wrap64 (x9_5 - 1)))) else (impl_Far.j5 k5 a0 a1 x5_5 x8_4 x9_5 (wrap64 ((rd (rd_L2 x5_5 (ji39)) (wrap64 (x9_5 - 1))) + 1)))) else (none)) else (none)) else (none)) else (none)) else (none)) else (none)) = some r := by first | (rw [hji39] at H; exact H) | (simp only [hji39] at H ⊢; exact H)
                   have hji39w : (IntKind.i64.wrap (x8_4 - 1)) = ji39 := (i64_w _).trans hji39
                   by_cases c40 : 0 ≤ (ji39)
                   ·rw [if_pos c40] at H; have c40b0 := decide_eq_true c40; clear c40
                    by_cases c41 : (ji39) < (x5_5.length : Int)
                    ·rw [if_pos c41] at H; have c41b0 := decide_eq_true c41
                     try have c41b8 := c41b0
                     try simp only [hl5_2] at c41b8
                     try simp only [hl5_3] at c41b8
                     try simp only [hl5_4] at c41b8
                     try simp only [hl5_5] at c41b8
                     clear c41; obtain ⟨ji42, hji42⟩ : ∃ j_ : Int, (wrap64 (x9_5 - 1)) = j_ := ⟨_, rfl⟩
                     replace H : (if 0 ≤ (ji42) then (if (ji42) < ((rd_L2 x5_5 (ji39)).length : Int) then (if (ji39) < (a0.size : Int) then (if (ji42) < (a1.size : Int) then (if (bt a0 (ji39)) = (bt a1 (ji42)) then (impl_Far.j5 k5 a0 a1 x5_5 x8_4 x9_5 (rd (rd_L2 x5_5 (ji39)) (ji42))) else (impl_Far.j5 k5 a0 a1 x5_5 x8_4 x9_5 (wrap64 ((rd (rd_L2 x5_5 (ji39)) (ji42)) + 1)))) else (none)) else (none)) else (none)) else (none)) = some r := by first | (rw [hji42] at H; exact H) | (simp only [hji42] at H ⊢; exact H)
                     have hji42w : (IntKind.i64.wrap (x9_5 - 1)) = ji42 := (i64_w _).trans hji42
                     by_cases c43 : 0 ≤ (ji42)
                     ·rw [if_pos c43] at H; have c43b0 := decide_eq_true c43; clear c43
                      by_cases c44 : (ji42) < ((rd_L2 x5_5 (ji39)).length : Int)
                      ·rw [if_pos c44] at H; have c44b0 := decide_eq_true c44
                       try have c44b8 := c44b0
                       try simp only [hl5_2] at c44b8
                       try simp only [hl5_3] at c44b8
                       try simp only [hl5_4] at c44b8
                       try simp only [hl5_5] at c44b8
                       clear c44
                       by_cases c45 : (ji39) < (a0.size : Int)
                       ·rw [if_pos c45] at H; have c45b0 := decide_eq_true c45; clear c45
                        by_cases c47 : (ji42) < (a1.size : Int)
                        ·rw [if_pos c47] at H; have c47b0 := decide_eq_true c47; clear c47; have HC49 := am H; clear H
                         have p220 : 0 ≤ ((ji39) : Int) := of_decide_eq_true ad
                         have q220 : (ji39) < (x5_5.length : Int) := of_decide_eq_true ad
                         obtain ⟨ad220, A220_0, c220_0, e220, hx220_0, hl220_0, hi220_0⟩ := at_L2 (Kd.S_reads' HO_5.out).2.2 (ji39) p220 q220
                         obtain rfl : ad213 = ad220 := (by injection e220)
                         obtain ⟨ce220, hce220, hMe220, hcc220⟩ := Kd.S_get HO_5.out [] (ji39) p220 (by first | exact q220 | exact of_decide_eq_true ad | (have e_ := (Kd.S_reads' HO_5.out).1; omega))
                         obtain ⟨ve220_0, rfl, ge220_0⟩ := hMe220; have hv220_0 := hcc220 0 _ rfl; rw [Nat.add_zero, show ((Kd.slice 3 (Kd.int .i64))).sz = 1 from rfl, Nat.mul_one] at hv220_0; replace hv220_0 := Option.some.inj (hv220_0.symm.trans hx220_0); rw [hv220_0] at ge220_0; have HL220_0 := am (show Kd.R (Kd.int .i64) 3 _ _ _ _ (rd_L2 x5_5 (ji39)) from ge220_0); clear hv220_0 ge220_0; have HX220_0 := am hx220_0; clear hcc220 hce220; have HR220_0 := am hi220_0; have HC220_0 := am hl220_0; clear hi220_0 hl220_0; replace p220 := eq_true p220; replace q220 := eq_true q220
                         have p221 : 0 ≤ ((ji42) : Int) := of_decide_eq_true ad
                         have q221 : (ji42) < ((rd_L2 x5_5 (ji39)).length : Int) := of_decide_eq_true ad
                         obtain ⟨ad221, e221, hx221_0⟩ := Kd.at_int b9_ (ji42) p221 q221
                         cases e221
                         replace p221 := eq_true p221; replace q221 := eq_true q221
                         have p46 : 0 ≤ ((ji39) : Int) := of_decide_eq_true ad
                         have q46 : (ji39) < (a0.size : Int) := of_decide_eq_true ad
                         have hx46 := bt_at a0 (ji39); replace p46 := eq_true p46; replace q46 := eq_true q46
                         have p48 : 0 ≤ ((ji42) : Int) := of_decide_eq_true ad
                         have q48 : (ji42) < (a1.size : Int) := of_decide_eq_true ad
                         have hx48 := bt_at a1 (ji42); replace p48 := eq_true p48; replace q48 := eq_true q48
                         go_upto_if 85 with (fail)
                         repeat (go_quiet (fail); go_upto_if 85 with (fail))
                         go_cut [10] (fun v10 wc => ∃ (kq : Nat) (x10_48 : Int), v10 = .int .i64 x10_48 ∧ Aside0 (impl_Far.j5 kq a0 a1 x5_5 x8_4 x9_5 x10_48 = some r) ∧ Aside0 (kq ≤ k5) ∧ Aside0 (Kd.S (Kd.slice 3 (Kd.int .i64)) 86 wc w.heap.size (fun _ => True) (.slice (some ad213) x5_5.length co13) x5_5) ∧ Aside0 (Kd.C (Kd.int .i64) wc (some ad221) (rd_L2 x5_5 (ji39)).length (rd_L2 x5_5 (ji39))) ∧ Aside0 (Below w.heap.size w wc))
                         case first =>
                          have H := HC49.out; clear HC49
                          by_cases c50 : (bt a0 (ji39)) = (bt a1 (ji42))
                          ·rw [if_pos c50] at H
                           have c50b0 : ((bt a0 (ji39)) == (bt a1 (ji42))) = true := beq_iff_eq.mpr c50
                           have c50b1 : ((bt a0 (ji39)) != (bt a1 (ji42))) = false := bne_eq_false_iff_eq.mpr c50
                           clear c50
                           (first | rw [c50b0] | (simp only [i64_w, i32_w]; rw [c50b0]) | skip)
                           have H' := am H
                           clear H; go_wp2
                           repeat (go_quiet (fail); try go_wp2)
                           go_meet
                           case rel => exact ⟨_, (rd (rd_L2 x5_5 (ji39)) (ji42)), (by first | rfl | (simp; done) | (simp only [← hji39, ← hji42] <;> (first | rfl | simp)) | (simp [*]; done)), H', ⟨by have := HJ2.out; have := HK2.out; have := HK3.out; have := HK4.out; have := HK5.out; first | omega | exact Nat.le_refl _⟩, ⟨b2_⟩, ⟨b9_⟩, ⟨bel⟩⟩
                          ·rw [if_neg c50] at H
                           have c50b0 : ((bt a0 (ji39)) == (bt a1 (ji42))) = false := beq_eq_false_iff_ne.mpr c50
                           have c50b1 : ((bt a0 (ji39)) != (bt a1 (ji42))) = true := bne_iff_ne.mpr c50
                           (first | rw [c50b0] | (simp only [i64_w, i32_w]; rw [c50b0]) | skip)
                           have H' := am H
                           clear H; go_wp2
                           repeat (go_quiet (fail); try go_wp2)
                           go_meet
                           case rel => exact ⟨_, (wrap64 ((rd (rd_L2 x5_5 (ji39)) (ji42)) + 1)), (by first | rfl | (simp; done) | (simp only [← hji39, ← hji42] <;> (first | rfl | simp)) | (simp [*]; done)), H', ⟨by have := HJ2.out; have := HK2.out; have := HK3.out; have := HK4.out; have := HK5.out; first | omega | exact Nat.le_refl _⟩, ⟨b2_⟩, ⟨b9_⟩, ⟨bel⟩⟩
                         case rest =>
                          clear HC49; (try clear c1); (try clear c2); (try clear p2); (try clear q2); (try clear hx2); (try clear qi2); (try clear hf2); (try clear c3); (try clear p3); (try clear q3); (try clear hx3); (try clear hf3); (try clear c4); (try clear p4); (try clear q4); (try clear hx4); (try clear c5); (try clear p6); (try clear c7); (try clear c9); (try clear c9b0); (try clear c9b1); (try clear c10); (try clear c10b0); (try clear c10b1); (try clear c14); (try clear c14b0); (try clear c16); (try clear c16b0); (try clear c16b1); (try clear c17); (try clear c17b0); (try clear c17b1); (try clear c18); (try clear c18b0); (try clear c19); (try clear c19b0); (try clear c20); (try clear p20); (try clear q20); (try clear hx20); (try clear hf20); (try clear c21); (try clear c21b0); (try clear c21b1); (try clear p21); (try clear q21); (try clear hx21); (try clear qi21); (try clear c22); (try clear p22); (try clear q22); (try clear hx22); (try clear qi22); (try clear hf22); (try clear c23); (try clear c25); (try clear hx25); (try clear hf25); (try clear c27); (try clear q27); (try clear c29); (try clear c29b0); (try clear c29b1); (try clear c30); (try clear c30b0); (try clear c31); (try clear c31b0); (try clear c31b1); (try clear c32); (try clear c32b0); (try clear c33); (try clear c33b0); (try clear p34); (try clear q34); (try clear hx34); (try clear hf34); (try clear c35); (try clear q35); (try clear c37); (try clear c37b0); (try clear c38); (try clear c38b0); (try clear c40); (try clear c40b0); (try clear c41); (try clear c41b0); (try clear c43); (try clear c43b0); (try clear c44); (try clear c44b0); (try clear c45); (try clear c45b0); (try clear p46); (try clear q46); (try clear hx46); (try clear c47); (try clear c47b0); (try clear p48); (try clear q48); (try clear hx48); (try clear c50); (try clear c50b0); (try clear c50b1); (try clear hx209_0); (try clear hx20_0); (try clear hx213_0); (try clear hx214_0); (try clear hx220_0); (try clear hx221_0); (try clear hx22_0); (try clear hx25_0); (try clear hx34_0); (try clear p2); (try clear p20); (try clear p209); (try clear p21); (try clear p213); (try clear p214); (try clear p22); (try clear p220); (try clear p221); (try clear p3); (try clear p34); (try clear p46); (try clear p48); (try clear p6); (try clear q2); (try clear q20); (try clear q209); (try clear q21); (try clear q213); (try clear q214); (try clear q22); (try clear q220); (try clear q221); (try clear q27); (try clear q3); (try clear q34); (try clear q35); (try clear q46); (try clear q48); obtain ⟨kq, x10_48, rfl, HA, HJ48, HO_5, HR220_0, HB⟩ := hcut
                          cases kq with
                          | zero => exact absurd HA.out (by simp [impl_Far.j5])
                          | succ kj48 =>
                           have H := HA.out; clear HA
                           simp only [impl_Far.j5] at H
                           obtain ⟨ji51, hji51⟩ : ∃ j_ : Int, (wrap64 (x8_4 - 1)) = j_ := ⟨_, rfl⟩
                           replace H : (if 0 ≤ (ji51) then (if (ji51) < (x5_5.length : Int) then (if 0 ≤ x9_5 then (if x9_5 < ((rd_L2 x5_5 (ji51)).length : Int) then (if 0 ≤ x8_4 then (if x8_4 < (x5_5.length : Int) then (if 0 ≤ (wrap64 (x9_5 - 1)) then (if (wrap64 (x9_5 - 1)) < ((rd_L2 x5_5 x8_4).length : Int) then (if x8_4 > 1 then (if x9_5 > 1 then (if (ji51) < (a0.size : Int) then (if 0 ≤ (wrap64 (x9_5 - 2)) then (if (wrap64 (x9_5 - 2)) < (a1.size : Int) then (if (bt a0 (ji51)) = (bt a1 (wrap64 (x9_5 - 2))) then (if 0 ≤ (wrap64 (x8_4 - 2)) then (if (wrap64 (x8_4 - 2)) < (a0.size : Int) then (if (wrap64 (x9_5 - 1)) < (a1.size : Int) then (impl_Far.j6 kj48 a0 a1 x5_5 x8_4 x9_5 (mn (mn x10_48 (wrap64 ((rd (rd_L2 x5_5 (ji51)) x9_5) + 1))) (wrap64 ((rd (rd_L2 x5_5 x8_4) (wrap64 (x9_5 - 1))) + 1))) ((bt a0 (wrap64 (x8_4 - 2))) == (bt a1 (wrap64 (x9_5 - 1))))) else (none)) else (none)) else (none)) else (impl_Far.j6 kj48 a0 a1 x5_5 x8_4 x9_5 (mn (mn x10_48 (wrap64 ((rd (rd_L2 x5_5 (ji51)) x9_5) + 1))) (wrap64 ((rd (rd_L2 x5_5 x8_4) (wrap64 (x9_5 - 1))) + 1))) false)) else (none)) else (none)) else (none)) else (impl_Far.j6 kj48 a0 a1 x5_5 x8_4 x9_5 (mn (mn x10_48 (wrap64 ((rd (rd_L2 x5_5 (ji51)) x9_5) + 1))) (wrap64 ((rd (rd_L2 x5_5 x8_4) (wrap64 (x9_5 - 1))) + 1))) false)) else (impl_Far.j6 kj48 a0 a1 x5_5 x8_4 x9_5 (mn (mn x10_48 (wrap64 ((rd (rd_L2 x5_5 (ji51)) x9_5) + 1))) (wrap64 ((rd (rd_L2 x5_5 x8_4) (wrap64 (x9_5 - 1))) + 1))) false)) else (none)) else (none)) else (none)) else (none)) else (none)) else (none)) else (none)) else (none)) = some r := by first | (rw [hji51] at H; exact H) | (simp only [hji51] at H ⊢; exact H)
                           have hji51w : (IntKind.i64.wrap (x8_4 - 1)) = ji51 := (i64_w _).trans hji51
                           (try clear hji39w)
                           by_cases c52 : 0 ≤ (ji51)
                           ·rw [if_pos c52] at H; have c52b0 := decide_eq_true c52; clear c52
                            by_cases c53 : (ji51) < (x5_5.length : Int)
                            ·rw [if_pos c53] at H; have c53b0 := decide_eq_true c53
                             try have c53b8 := c53b0
                             try simp only [hl5_2] at c53b8
                             try simp only [hl5_3] at c53b8
                             try simp only [hl5_4] at c53b8
                             try simp only [hl5_5] at c53b8
                             clear c53
                             by_cases c54 : 0 ≤ x9_5
                             ·rw [if_pos c54] at H; have c54b0 := decide_eq_true c54; clear c54
                              by_cases c55 : x9_5 < ((rd_L2 x5_5 (ji51)).length : Int)
                              ·rw [if_pos c55] at H; have c55b0 := decide_eq_true c55
                               try have c55b8 := c55b0
                               try simp only [hl5_2] at c55b8
                               try simp only [hl5_3] at c55b8
                               try simp only [hl5_4] at c55b8
                               try simp only [hl5_5] at c55b8
                               clear c55
                               by_cases c56 : 0 ≤ x8_4
                               ·rw [if_pos c56] at H; have c56b0 := decide_eq_true c56; clear c56
                                by_cases c57 : x8_4 < (x5_5.length : Int)
                                ·rw [if_pos c57] at H; have c57b0 := decide_eq_true c57
                                 try have c57b8 := c57b0
                                 try simp only [hl5_2] at c57b8
                                 try simp only [hl5_3] at c57b8
                                 try simp only [hl5_4] at c57b8
                                 try simp only [hl5_5] at c57b8
                                 clear c57; obtain ⟨ji58, hji58⟩ : ∃ j_ : Int, (wrap64 (x9_5 - 1)) = j_ := ⟨_, rfl⟩
                                 replace H : (if 0 ≤ (ji58) then (if (ji58) < ((rd_L2 x5_5 x8_4).length : Int) then (if x8_4 > 1 then (if x9_5 > 1 then (if (ji51) < (a0.size : Int) then (if 0 ≤ (wrap64 (x9_5 - 2)) then (if (wrap64 (x9_5 - 2)) < (a1.size : Int) then (if (bt a0 (ji51)) = (bt a1 (wrap64 (x9_5 - 2))) then (if 0 ≤ (wrap64 (x8_4 - 2)) then (if (wrap64 (x8_4 - 2)) < (a0.size : Int) then (if (ji58) < (a1.size : Int) then (impl_Far.j6 kj48 a0 a1 x5_5 x8_4 x9_5 (mn (mn x10_48 (wrap64 ((rd (rd_L2 x5_5 (ji51)) x9_5) + 1))) (wrap64 ((rd (rd_L2 x5_5 x8_4) (ji58)) + 1))) ((bt a0 (wrap64 (x8_4 - 2))) == (bt a1 (ji58)))) else (none)) else (none)) else (none)) else (impl_Far.j6 kj48 a0 a1 x5_5 x8_4 x9_5 (mn (mn x10_48 (wrap64 ((rd (rd_L2 x5_5 (ji51)) x9_5) + 1))) (wrap64 ((rd (rd_L2 x5_5 x8_4) (ji58)) + 1))) false)) else (none)) else (none)) else (none)) else (impl_Far.j6 kj48 a0 a1 x5_5 x8_4 x9_5 (mn (mn x10_48 (wrap64 ((rd (rd_L2 x5_5 (ji51)) x9_5) + 1))) (wrap64 ((rd (rd_L2 x5_5 x8_4) (ji58)) + 1))) false)) else (impl_Far.j6 kj48 a0 a1 x5_5 x8_4 x9_5 (mn (mn x10_48 (wrap64 ((rd (rd_L2 x5_5 (ji51)) x9_5) + 1))) (wrap64 ((rd (rd_L2 x5_5 x8_4) (ji58)) + 1))) false)) else (none)) else (none)) = some r := by first | (rw [hji58] at H; exact H) | (simp only [hji58] at H ⊢; exact H)
                                 have hji58w : (IntKind.i64.wrap (x9_5 - 1)) = ji58 := (i64_w _).trans hji58
                                 (try clear hji42w)
                                 by_cases c59 : 0 ≤ (ji58)
                                 ·rw [if_pos c59] at H; have c59b0 := decide_eq_true c59; clear c59
                                  by_cases c60 : (ji58) < ((rd_L2 x5_5 x8_4).length : Int)
                                  ·rw [if_pos c60] at H; have c60b0 := decide_eq_true c60
                                   try have c60b8 := c60b0
                                   try simp only [hl5_2] at c60b8
                                   try simp only [hl5_3] at c60b8
                                   try simp only [hl5_4] at c60b8
                                   try simp only [hl5_5] at c60b8
                                   clear c60; obtain ⟨ji61, hji61⟩ : ∃ j_ : Int, (mn x10_48 (wrap64 ((rd (rd_L2 x5_5 (ji51)) x9_5) + 1))) = j_ := ⟨_, rfl⟩
                                   replace H : (if x8_4 > 1 then (if x9_5 > 1 then (if (ji51) < (a0.size : Int) then (if 0 ≤ (wrap64 (x9_5 - 2)) then (if (wrap64 (x9_5 - 2)) < (a1.size : Int) then (if (bt a0 (ji51)) = (bt a1 (wrap64 (x9_5 - 2))) then (if 0 ≤ (wrap64 (x8_4 - 2)) then (if (wrap64 (x8_4 - 2)) < (a0.size : Int) then (if (ji58) < (a1.size : Int) then (impl_Far.j6 kj48 a0 a1 x5_5 x8_4 x9_5 (mn (ji61) (wrap64 ((rd (rd_L2 x5_5 x8_4) (ji58)) + 1))) ((bt a0 (wrap64 (x8_4 - 2))) == (bt a1 (ji58)))) else (none)) else (none)) else (none)) else (impl_Far.j6 kj48 a0 a1 x5_5 x8_4 x9_5 (mn (ji61) (wrap64 ((rd (rd_L2 x5_5 x8_4) (ji58)) + 1))) false)) else (none)) else (none)) else (none)) else (impl_Far.j6 kj48 a0 a1 x5_5 x8_4 x9_5 (mn (ji61) (wrap64 ((rd (rd_L2 x5_5 x8_4) (ji58)) + 1))) false)) else (impl_Far.j6 kj48 a0 a1 x5_5 x8_4 x9_5 (mn (ji61) (wrap64 ((rd (rd_L2 x5_5 x8_4) (ji58)) + 1))) false)) = some r := by first | (rw [hji61] at H; exact H) | (simp only [hji61] at H ⊢; exact H)
                                   have hji61_ : (if (wrap64 ((rd (rd_L2 x5_5 (ji51)) x9_5) + 1)) < x10_48 then (wrap64 ((rd (rd_L2 x5_5 (ji51)) x9_5) + 1)) else x10_48) = ji61 := hji61
                                   obtain ⟨ji62, hji62⟩ : ∃ j_ : Int, (mn (ji61) (wrap64 ((rd (rd_L2 x5_5 x8_4) (ji58)) + 1))) = j_ := ⟨_, rfl⟩
                                   replace H : (if x8_4 > 1 then (if x9_5 > 1 then (if (ji51) < (a0.size : Int) then (if 0 ≤ (wrap64 (x9_5 - 2)) then (if (wrap64 (x9_5 - 2)) < (a1.size : Int) then (if (bt a0 (ji51)) = (bt a1 (wrap64 (x9_5 - 2))) then (if 0 ≤ (wrap64 (x8_4 - 2)) then (if (wrap64 (x8_4 - 2)) < (a0.size : Int) then (if (ji58) < (a1.size : Int) then (impl_Far.j6 kj48 a0 a1 x5_5 x8_4 x9_5 ji62 ((bt a0 (wrap64 (x8_4 - 2))) == (bt a1 (ji58)))) else (none)) else (none)) else (none)) else (impl_Far.j6 kj48 a0 a1 x5_5 x8_4 x9_5 ji62 false)) else (none)) else (none)) else (none)) else (impl_Far.j6 kj48 a0 a1 x5_5 x8_4 x9_5 ji62 false)) else (impl_Far.j6 kj48 a0 a1 x5_5 x8_4 x9_5 ji62 false)) = some r := by first | (rw [hji62] at H; exact H) | (simp only [hji62] at H ⊢; exact H)
                                   have hji62_ : (if (wrap64 ((rd (rd_L2 x5_5 x8_4) (ji58)) + 1)) < (ji61) then (wrap64 ((rd (rd_L2 x5_5 x8_4) (ji58)) + 1)) else (ji61)) = ji62 := hji62
                                   have HC63 := am H; clear H
                                   have p222 : 0 ≤ ((ji51) : Int) := of_decide_eq_true ad
                                   have q222 : (ji51) < (x5_5.length : Int) := of_decide_eq_true ad
                                   obtain ⟨ad222, A222_0, c222_0, e222, hx222_0, hl222_0, hi222_0⟩ := at_L2 (Kd.S_reads' HO_5.out).2.2 (ji51) p222 q222
                                   obtain rfl : ad213 = ad222 := (by injection e222)
                                   obtain ⟨ce222, hce222, hMe222, hcc222⟩ := Kd.S_get HO_5.out [] (ji51) p222 (by first | exact q222 | exact of_decide_eq_true ad | (have e_ := (Kd.S_reads' HO_5.out).1; omega))
                                   obtain ⟨ve222_0, rfl, ge222_0⟩ := hMe222; have hv222_0 := hcc222 0 _ rfl; rw [Nat.add_zero, show ((Kd.slice 3 (Kd.int .i64))).sz = 1 from rfl, Nat.mul_one] at hv222_0; replace hv222_0 := Option.some.inj (hv222_0.symm.trans hx222_0); rw [hv222_0] at ge222_0; have HL222_0 := am (show Kd.R (Kd.int .i64) 3 _ _ _ _ (rd_L2 x5_5 (ji51)) from ge222_0); clear hv222_0 ge222_0; have HX222_0 := am hx222_0; clear hcc222 hce222; have HR222_0 := am hi222_0; have HC222_0 := am hl222_0; clear hi222_0 hl222_0; replace p222 := eq_true p222; replace q222 := eq_true q222
                                   have p223 : 0 ≤ (x9_5 : Int) := of_decide_eq_true ad
                                   have q223 : x9_5 < ((rd_L2 x5_5 (ji51)).length : Int) := of_decide_eq_true ad
                                   obtain ⟨ad223, e223, hx223_0⟩ := Kd.at_int b13_ x9_5 p223 q223
                                   cases e223
                                   replace p223 := eq_true p223; replace q223 := eq_true q223
                                   have p224 : 0 ≤ (x8_4 : Int) := of_decide_eq_true ad
                                   have q224 : x8_4 < (x5_5.length : Int) := of_decide_eq_true ad
                                   obtain ⟨ad224, A224_0, c224_0, e224, hx224_0, hl224_0, hi224_0⟩ := at_L2 (Kd.S_reads' HO_5.out).2.2 x8_4 p224 q224
                                   obtain rfl : ad213 = ad224 := (by injection e224)
                                   obtain ⟨ce224, hce224, hMe224, hcc224⟩ := Kd.S_get HO_5.out [] x8_4 p224 (by first | exact q224 | exact of_decide_eq_true ad | (have e_ := (Kd.S_reads' HO_5.out).1; omega))
                                   obtain ⟨ve224_0, rfl, ge224_0⟩ := hMe224; have hv224_0 := hcc224 0 _ rfl; rw [Nat.add_zero, show ((Kd.slice 3 (Kd.int .i64))).sz = 1 from rfl, Nat.mul_one] at hv224_0; replace hv224_0 := Option.some.inj (hv224_0.symm.trans hx224_0); rw [hv224_0] at ge224_0; have HL224_0 := am (show Kd.R (Kd.int .i64) 3 _ _ _ _ (rd_L2 x5_5 x8_4) from ge224_0); clear hv224_0 ge224_0; have HX224_0 := am hx224_0; clear hcc224 hce224; have HR224_0 := am hi224_0; have HC224_0 := am hl224_0; clear hi224_0 hl224_0; replace p224 := eq_true p224; replace q224 := eq_true q224
                                   have p225 : 0 ≤ ((ji58) : Int) := of_decide_eq_true ad
                                   have q225 : (ji58) < ((rd_L2 x5_5 x8_4).length : Int) := of_decide_eq_true ad
                                   obtain ⟨ad225, e225, hx225_0⟩ := Kd.at_int b14_ (ji58) p225 q225
                                   cases e225
                                   replace p225 := eq_true p225; replace q225 := eq_true q225
                                   go_upto_region 25 with (fail)
                                   repeat (go_quiet (fail); go_upto_region 25 with (fail))
                                   go_cut [135] (fun v135 wc => ∃ (kq : Nat) (x135_62 : Bool), v135 = .bool x135_62 ∧ Aside0 (impl_Far.j6 kq a0 a1 x5_5 x8_4 x9_5 ji62 x135_62 = some r) ∧ Aside0 (kq ≤ kj48) ∧ Aside0 (Kd.S (Kd.slice 3 (Kd.int .i64)) 86 wc w.heap.size (fun _ => True) (.slice (some ad213) x5_5.length co13) x5_5) ∧ Aside0 (Kd.C (Kd.int .i64) wc (some ad221) (rd_L2 x5_5 (ji39)).length (rd_L2 x5_5 (ji39))) ∧ Aside0 (Kd.C (Kd.int .i64) wc (some ad223) (rd_L2 x5_5 (ji51)).length (rd_L2 x5_5 (ji51))) ∧ Aside0 (Kd.C (Kd.int .i64) wc (some ad225) (rd_L2 x5_5 x8_4).length (rd_L2 x5_5 x8_4)) ∧ Aside0 (Below w.heap.size w wc))
                                   case first =>
                                    have H := HC63.out; clear HC63
                                    by_cases c64 : x8_4 > 1
                                    ·rw [if_pos c64] at H; have c64b0 := decide_eq_true c64; clear c64
                                     (first | rw [c64b0] | (simp only [i64_w, i32_w]; rw [c64b0]) | skip)
                                     by_cases c65 : x9_5 > 1
                                     ·rw [if_pos c65] at H; have c65b0 := decide_eq_true c65; clear c65
                                      by_cases c66 : (ji51) < (a0.size : Int)
                                      ·rw [if_pos c66] at H; have c66b0 := decide_eq_true c66; clear c66; obtain ⟨ji68, hji68⟩ : ∃ j_ : Int, (wrap64 (x9_5 - 2)) = j_ := ⟨_, rfl⟩
                                       replace H : (if 0 ≤ (ji68) then (if (ji68) < (a1.size : Int) then (if (bt a0 (ji51)) = (bt a1 (ji68)) then (if 0 ≤ (wrap64 (x8_4 - 2)) then (if (wrap64 (x8_4 - 2)) < (a0.size : Int) then (if (ji58) < (a1.size : Int) then (impl_Far.j6 kj48 a0 a1 x5_5 x8_4 x9_5 ji62 ((bt a0 (wrap64 (x8_4 - 2))) == (bt a1 (ji58)))) else (none)) else (none)) else (none)) else (impl_Far.j6 kj48 a0 a1 x5_5 x8_4 x9_5 ji62 false)) else (none)) else (none)) = some r := by first | (rw [hji68] at H; exact H) | (simp only [hji68] at H ⊢; exact H)
                                       have hji68w : (IntKind.i64.wrap (x9_5 - 2)) = ji68 := (i64_w _).trans hji68
                                       by_cases c69 : 0 ≤ (ji68)
                                       ·rw [if_pos c69] at H; have c69b0 := decide_eq_true c69; clear c69
                                        by_cases c70 : (ji68) < (a1.size : Int)
                                        ·rw [if_pos c70] at H; have c70b0 := decide_eq_true c70; clear c70
                                         by_cases c72 : (bt a0 (ji51)) = (bt a1 (ji68))
                                         ·rw [if_pos c72] at H
                                          have c72b0 : ((bt a0 (ji51)) == (bt a1 (ji68))) = true := beq_iff_eq.mpr c72
                                          have c72b1 : ((bt a0 (ji51)) != (bt a1 (ji68))) = false := bne_eq_false_iff_eq.mpr c72
                                          clear c72; obtain ⟨ji73, hji73⟩ : ∃ j_ : Int, (wrap64 (x8_4 - 2)) = j_ := ⟨_, rfl⟩
                                          replace H : (if 0 ≤ (ji73) then (if (ji73) < (a0.size : Int) then (if (ji58) < (a1.size : Int) then (impl_Far.j6 kj48 a0 a1 x5_5 x8_4 x9_5 ji62 ((bt a0 (ji73)) == (bt a1 (ji58)))) else (none)) else (none)) else (none)) = some r := by first | (rw [hji73] at H; exact H) | (simp only [hji73] at H ⊢; exact H)
                                          have hji73w : (IntKind.i64.wrap (x8_4 - 2)) = ji73 := (i64_w _).trans hji73
                                          by_cases c74 : 0 ≤ (ji73)
                                          ·rw [if_pos c74] at H; have c74b0 := decide_eq_true c74; clear c74
                                           by_cases c75 : (ji73) < (a0.size : Int)
                                           ·rw [if_pos c75] at H; have c75b0 := decide_eq_true c75; clear c75
                                            by_cases c77 : (ji58) < (a1.size : Int)
                                            ·rw [if_pos c77] at H; have c77b0 := decide_eq_true c77; clear c77
                                             have H' := am H
                                             clear H
                                             have p67 : 0 ≤ ((ji51) : Int) := of_decide_eq_true ad
                                             have q67 : (ji51) < (a0.size : Int) := of_decide_eq_true ad
                                             have hx67 := bt_at a0 (ji51); replace p67 := eq_true p67; replace q67 := eq_true q67
                                             have p71 : 0 ≤ ((ji68) : Int) := of_decide_eq_true ad
                                             have q71 : (ji68) < (a1.size : Int) := of_decide_eq_true ad
                                             have hx71 := bt_at a1 (ji68); replace p71 := eq_true p71; replace q71 := eq_true q71
                                             have p76 : 0 ≤ ((ji73) : Int) := of_decide_eq_true ad
                                             have q76 : (ji73) < (a0.size : Int) := of_decide_eq_true ad
                                             have hx76 := bt_at a0 (ji73); replace p76 := eq_true p76; replace q76 := eq_true q76
                                             have p78 : 0 ≤ ((ji58) : Int) := of_decide_eq_true ad
                                             have q78 : (ji58) < (a1.size : Int) := of_decide_eq_true ad
                                             have hx78 := bt_at a1 (ji58); replace p78 := eq_true p78; replace q78 := eq_true q78; go_wp2
                                             repeat (go_quiet (fail); try go_wp2)
                                             go_meet
                                             case rel => exact ⟨_, (((bt a0 (ji73)) == (bt a1 (ji58)))), (by first | rfl | (simp; done) | (simp only [← hji58, ← hji73] <;> (first | rfl | simp)) | (simp [*]; done)), H', ⟨b19_⟩, ⟨b2_⟩, ⟨b9_⟩, ⟨b13_⟩, ⟨b14_⟩, ⟨bel⟩⟩
                                            ·rw [if_neg c77] at H
                                             exact absurd H (by simp)
                                           ·rw [if_neg c75] at H
                                            exact absurd H (by simp)
                                          ·rw [if_neg c74] at H
                                           exact absurd H (by simp)
                                         ·rw [if_neg c72] at H
                                          have c72b0 : ((bt a0 (ji51)) == (bt a1 (ji68))) = false := beq_eq_false_iff_ne.mpr c72
                                          have c72b1 : ((bt a0 (ji51)) != (bt a1 (ji68))) = true := bne_iff_ne.mpr c72
                                          have H' := am H
                                          clear H
                                          have p67 : 0 ≤ ((ji51) : Int) := of_decide_eq_true ad
                                          have q67 : (ji51) < (a0.size : Int) := of_decide_eq_true ad
                                          have hx67 := bt_at a0 (ji51); replace p67 := eq_true p67; replace q67 := eq_true q67
                                          have p71 : 0 ≤ ((ji68) : Int) := of_decide_eq_true ad
                                          have q71 : (ji68) < (a1.size : Int) := of_decide_eq_true ad
                                          have hx71 := bt_at a1 (ji68); replace p71 := eq_true p71; replace q71 := eq_true q71; go_wp2
                                          repeat (go_quiet (fail); try go_wp2)
                                          go_meet
                                          case rel => exact ⟨_, (false), sq, H', ⟨b19_⟩, ⟨b2_⟩, ⟨b9_⟩, ⟨b13_⟩, ⟨b14_⟩, ⟨bel⟩⟩
                                        ·rw [if_neg c70] at H
                                         exact absurd H (by simp)
                                       ·rw [if_neg c69] at H
                                        exact absurd H (by simp)
                                      ·rw [if_neg c66] at H
                                       exact absurd H (by simp)
                                     ·rw [if_neg c65] at H; have c65b0 := decide_eq_false c65; clear c65
                                      have H' := am H
                                      clear H; go_wp2
                                      repeat (go_quiet (fail); try go_wp2)
                                      go_meet
                                      case rel => exact ⟨_, (false), sq, H', ⟨b19_⟩, ⟨b2_⟩, ⟨b9_⟩, ⟨b13_⟩, ⟨b14_⟩, ⟨bel⟩⟩
                                    ·rw [if_neg c64] at H; have c64b0 := decide_eq_false c64; clear c64
                                     (first | rw [c64b0] | (simp only [i64_w, i32_w]; rw [c64b0]) | skip)
                                     have H' := am H
                                     clear H; go_wp2
                                     repeat (go_quiet (fail); try go_wp2)
                                     go_meet
                                     case rel => exact ⟨_, (false), sq, H', ⟨b19_⟩, ⟨b2_⟩, ⟨b9_⟩, ⟨b13_⟩, ⟨b14_⟩, ⟨bel⟩⟩
                                   case rest =>
                                    clear HC63; (try clear c1); (try clear c2); (try clear p2); (try clear q2); (try clear hx2); (try clear qi2); (try clear hf2); (try clear c3); (try clear p3); (try clear q3); (try clear hx3); (try clear hf3); (try clear c4); (try clear p4); (try clear q4); (try clear hx4); (try clear c5); (try clear c6); (try clear p6); (try clear q6); (try clear hx6); (try clear c7); (try clear p7); (try clear q7); (try clear hx7); (try clear c9); (try clear c9b0); (try clear c9b1); (try clear c10); (try clear c10b0); (try clear c10b1); (try clear c14); (try clear c14b0); (try clear c16); (try clear c16b0); (try clear c16b1); (try clear c17); (try clear c17b0); (try clear c17b1); (try clear c18); (try clear c18b0); (try clear c19); (try clear c19b0); (try clear c20); (try clear p20); (try clear q20); (try clear hx20); (try clear hf20); (try clear c21); (try clear c21b0); (try clear c21b1); (try clear p21); (try clear q21); (try clear hx21); (try clear qi21); (try clear c22); (try clear p22); (try clear q22); (try clear hx22); (try clear qi22); (try clear hf22); (try clear c23); (try clear c25); (try clear hx25); (try clear hf25); (try clear c27); (try clear q27); (try clear c29); (try clear c29b0); (try clear c29b1); (try clear c30); (try clear c30b0); (try clear c31); (try clear c31b0); (try clear c31b1); (try clear c32); (try clear c32b0); (try clear c33); (try clear c33b0); (try clear p34); (try clear q34); (try clear hx34); (try clear hf34); (try clear c35); (try clear q35); (try clear c37); (try clear c37b0); (try clear c38); (try clear c38b0); (try clear c40); (try clear c40b0); (try clear c41); (try clear c41b0); (try clear c43); (try clear c43b0); (try clear c44); (try clear c44b0); (try clear c45); (try clear c45b0); (try clear p46); (try clear q46); (try clear hx46); (try clear c47); (try clear c47b0); (try clear p48); (try clear q48); (try clear hx48); (try clear c50); (try clear c50b0); (try clear c50b1); (try clear c52); (try clear c52b0); (try clear c53); (try clear c53b0); (try clear c54); (try clear c54b0); (try clear c55); (try clear c55b0); (try clear c56); (try clear c56b0); (try clear c57); (try clear c57b0); (try clear c59); (try clear c59b0); (try clear c60); (try clear c60b0); (try clear c64); (try clear c64b0); (try clear p64); (try clear c65); (try clear c65b0); (try clear c66); (try clear c66b0); (try clear p67); (try clear q67); (try clear hx67); (try clear c69); (try clear c69b0); (try clear c70); (try clear c70b0); (try clear p71); (try clear q71); (try clear hx71); (try clear c72); (try clear c72b0); (try clear c72b1); (try clear c74); (try clear c74b0); (try clear c75); (try clear c75b0); (try clear p76); (try clear q76); (try clear hx76); (try clear c77); (try clear c77b0); (try clear p78); (try clear q78); (try clear hx78); (try clear hx209_0); (try clear hx20_0); (try clear hx213_0); (try clear hx214_0); (try clear hx220_0); (try clear hx221_0); (try clear hx222_0); (try clear hx223_0); (try clear hx224_0); (try clear hx225_0); (try clear hx22_0); (try clear hx25_0); (try clear hx34_0); (try clear p2); (try clear p20); (try clear p209); (try clear p21); (try clear p213); (try clear p214); (try clear p22); (try clear p220); (try clear p221); (try clear p222); (try clear p223); (try clear p224); (try clear p225); (try clear p3); (try clear p34); (try clear p4); (try clear p46); (try clear p48); (try clear p6); (try clear p67); (try clear p71); (try clear p76); (try clear p78); (try clear q2); (try clear q20); (try clear q209); (try clear q21); (try clear q213); (try clear q214); (try clear q22); (try clear q220); (try clear q221); (try clear q222); (try clear q223); (try clear q224); (try clear q225); (try clear q27); (try clear q3); (try clear q34); (try clear q35); (try clear q4); (try clear q46); (try clear q48); (try clear q67); (try clear q71); (try clear q76); (try clear q78); obtain ⟨kq, x135_62, rfl, HA, HJ62, HO_5, HR220_0, HR222_0, HR224_0, HB⟩ := hcut
                                    cases kq with
                                    | zero => exact absurd HA.out (by simp [impl_Far.j6])
                                    | succ kj62 =>
                                     have H := HA.out; clear HA
                                     simp only [impl_Far.j6] at H
                                     by_cases c79 : x135_62 = true
                                     ·subst c79
                                      have H1 : (if 0 ≤ (wrap64 (x8_4 - 2)) then (if (wrap64 (x8_4 - 2)) < (x5_5.length : Int) then (if 0 ≤ (wrap64 (x9_5 - 2)) then (if (wrap64 (x9_5 - 2)) < ((rd_L2 x5_5 (wrap64 (x8_4 - 2))).length : Int) then (if 0 ≤ x8_4 then (if x8_4 < (x5_5.length : Int) then (if 0 ≤ x9_5 then (if x9_5 < ((rd_L2 x5_5 x8_4).length : Int) then (impl_Far.l3 kj62 a0 a1 (x5_5.set (x8_4 : Int).toNat ((rd_L2 x5_5 x8_4).set (x9_5 : Int).toNat (mn ji62 (wrap64 ((rd (rd_L2 x5_5 (wrap64 (x8_4 - 2))) (wrap64 (x9_5 - 2))) + 1))))) x8_4 (wrap64 (x9_5 + 1))) else (none)) else (none)) else (none)) else (none)) else (none)) else (none)) else (none)) else (none)) = some r := b16_
                                      replace H := H1; clear H1
                                      obtain ⟨ji80, hji80⟩ : ∃ j_ : Int, (wrap64 (x8_4 - 2)) = j_ := ⟨_, rfl⟩
                                      replace H : (if 0 ≤ (ji80) then (if (ji80) < (x5_5.length : Int) then (if 0 ≤ (wrap64 (x9_5 - 2)) then (if (wrap64 (x9_5 - 2)) < ((rd_L2 x5_5 (ji80)).length : Int) then (if 0 ≤ x8_4 then (if x8_4 < (x5_5.length : Int) then (if 0 ≤ x9_5 then (if x9_5 < ((rd_L2 x5_5 x8_4).length : Int) then (impl_Far.l3 kj62 a0 a1 (x5_5.set (x8_4 : Int).toNat ((rd_L2 x5_5 x8_4).set (x9_5 : Int).toNat (mn ji62 (wrap64 ((rd (rd_L2 x5_5 (ji80)) (wrap64 (x9_5 - 2))) + 1))))) x8_4 (wrap64 (x9_5 + 1))) else (none)) else (none)) else (none)) else (none)) else (none)) else (none)) else (none)) else (none)) = some r := by first | (rw [hji80] at H; exact H) | (simp only [hji80] at H ⊢; exact H)
                                      have hji80w : (IntKind.i64.wrap (x8_4 - 2)) = ji80 := (i64_w _).trans hji80
                                      (try clear hji73w)
                                      by_cases c81 : 0 ≤ (ji80)
                                      ·rw [if_pos c81] at H; have c81b0 := decide_eq_true c81; clear c81
                                       by_cases c82 : (ji80) < (x5_5.length : Int)
                                       ·rw [if_pos c82] at H; have c82b0 := decide_eq_true c82
                                        try have c82b8 := c82b0
                                        try simp only [hl5_2] at c82b8
                                        try simp only [hl5_3] at c82b8
                                        try simp only [hl5_4] at c82b8
                                        try simp only [hl5_5] at c82b8
                                        clear c82; obtain ⟨ji83, hji83⟩ : ∃ j_ : Int, (wrap64 (x9_5 - 2)) = j_ := ⟨_, rfl⟩
                                        replace H : (if 0 ≤ (ji83) then (if (ji83) < ((rd_L2 x5_5 (ji80)).length : Int) then (if 0 ≤ x8_4 then (if x8_4 < (x5_5.length : Int) then (if 0 ≤ x9_5 then (if x9_5 < ((rd_L2 x5_5 x8_4).length : Int) then (impl_Far.l3 kj62 a0 a1 (x5_5.set (x8_4 : Int).toNat ((rd_L2 x5_5 x8_4).set (x9_5 : Int).toNat (mn ji62 (wrap64 ((rd (rd_L2 x5_5 (ji80)) (ji83)) + 1))))) x8_4 (wrap64 (x9_5 + 1))) else (none)) else (none)) else (none)) else (none)) else (none)) else (none)) = some r := by first | (rw [hji83] at H; exact H) | (simp only [hji83] at H ⊢; exact H)
                                        have hji83w : (IntKind.i64.wrap (x9_5 - 2)) = ji83 := (i64_w _).trans hji83
                                        (try clear hji68w)
                                        by_cases c84 : 0 ≤ (ji83)
                                        ·rw [if_pos c84] at H; have c84b0 := decide_eq_true c84; clear c84
                                         by_cases c85 : (ji83) < ((rd_L2 x5_5 (ji80)).length : Int)
                                         ·rw [if_pos c85] at H; have c85b0 := decide_eq_true c85
                                          try have c85b8 := c85b0
                                          try simp only [hl5_2] at c85b8
                                          try simp only [hl5_3] at c85b8
                                          try simp only [hl5_4] at c85b8
                                          try simp only [hl5_5] at c85b8
                                          clear c85; obtain ⟨ji86, hji86⟩ : ∃ j_ : Int, (mn ji62 (wrap64 ((rd (rd_L2 x5_5 (ji80)) (ji83)) + 1))) = j_ := ⟨_, rfl⟩
                                          replace H : (if 0 ≤ x8_4 then (if x8_4 < (x5_5.length : Int) then (if 0 ≤ x9_5 then (if x9_5 < ((rd_L2 x5_5 x8_4).length : Int) then (impl_Far.l3 kj62 a0 a1 (x5_5.set (x8_4 : Int).toNat ((rd_L2 x5_5 x8_4).set (x9_5 : Int).toNat (ji86))) x8_4 (wrap64 (x9_5 + 1))) else (none)) else (none)) else (none)) else (none)) = some r := by first | (rw [hji86] at H; exact H) | (simp only [hji86] at H ⊢; exact H)
                                          have hji86_ : (if (wrap64 ((rd (rd_L2 x5_5 (ji80)) (ji83)) + 1)) < ji62 then (wrap64 ((rd (rd_L2 x5_5 (ji80)) (ji83)) + 1)) else ji62) = ji86 := hji86
                                          by_cases c87 : 0 ≤ x8_4
                                          ·rw [if_pos c87] at H; have c87b0 := decide_eq_true c87; clear c87
                                           by_cases c88 : x8_4 < (x5_5.length : Int)
                                           ·rw [if_pos c88] at H; have c88b0 := decide_eq_true c88
                                            try have c88b8 := c88b0
                                            try simp only [hl5_2] at c88b8
                                            try simp only [hl5_3] at c88b8
                                            try simp only [hl5_4] at c88b8
                                            try simp only [hl5_5] at c88b8
                                            clear c88
                                            by_cases c89 : 0 ≤ x9_5
                                            ·rw [if_pos c89] at H; have c89b0 := decide_eq_true c89; clear c89
                                             by_cases c90 : x9_5 < ((rd_L2 x5_5 x8_4).length : Int)
                                             ·rw [if_pos c90] at H; have c90b0 := decide_eq_true c90
                                              try have c90b8 := c90b0
                                              try simp only [hl5_2] at c90b8
                                              try simp only [hl5_3] at c90b8
                                              try simp only [hl5_4] at c90b8
                                              try simp only [hl5_5] at c90b8
                                              clear c90; obtain ⟨y229, hy229⟩ : ∃ y_ : List Int, y_ = ((rd_L2 x5_5 x8_4).set (x9_5 : Int).toNat (ji86)) := ⟨_, rfl⟩
                                              replace H : (impl_Far.l3 kj62 a0 a1 (x5_5.set (x8_4 : Int).toNat y229) x8_4 (wrap64 (x9_5 + 1))) = some r := by first | (rw [hy229]; with_reducible exact H) | (have H2_ := (Option.bind_some _ _).symm.trans H; rw [hy229]; with_reducible exact H2_) | (have H2_ := (Option.bind_some _ _).symm.trans H; with_reducible exact H2_) | with_reducible exact H | (rw [hy229]; exact H) | exact H
                                              have Ny229 := am hy229; clear hy229; obtain ⟨y231, hy231⟩ : ∃ y_ : List (List Int), y_ = (x5_5.set (x8_4 : Int).toNat y229) := ⟨_, rfl⟩
                                              replace H : (impl_Far.l3 kj62 a0 a1 y231 x8_4 (wrap64 (x9_5 + 1))) = some r := by first | (rw [hy231]; with_reducible exact H) | (have H2_ := (Option.bind_some _ _).symm.trans H; rw [hy231]; with_reducible exact H2_) | (have H2_ := (Option.bind_some _ _).symm.trans H; with_reducible exact H2_) | with_reducible exact H | (rw [hy231]; exact H) | exact H
                                              have Ny231 := am hy231; clear hy231
                                              have H' := am H
                                              clear H
                                              have p226 : 0 ≤ ((ji80) : Int) := of_decide_eq_true ad
                                              have q226 : (ji80) < (x5_5.length : Int) := of_decide_eq_true ad
                                              obtain ⟨ad226, A226_0, c226_0, e226, hx226_0, hl226_0, hi226_0⟩ := at_L2 (Kd.S_reads' HO_5.out).2.2 (ji80) p226 q226
                                              obtain rfl : ad213 = ad226 := (by injection e226)
                                              obtain ⟨ce226, hce226, hMe226, hcc226⟩ := Kd.S_get HO_5.out [] (ji80) p226 (by first | exact q226 | exact of_decide_eq_true ad | (have e_ := (Kd.S_reads' HO_5.out).1; omega))
                                              obtain ⟨ve226_0, rfl, ge226_0⟩ := hMe226; have hv226_0 := hcc226 0 _ rfl; rw [Nat.add_zero, show ((Kd.slice 3 (Kd.int .i64))).sz = 1 from rfl, Nat.mul_one] at hv226_0; replace hv226_0 := Option.some.inj (hv226_0.symm.trans hx226_0); rw [hv226_0] at ge226_0; have HL226_0 := am (show Kd.R (Kd.int .i64) 3 _ _ _ _ (rd_L2 x5_5 (ji80)) from ge226_0); clear hv226_0 ge226_0; have HX226_0 := am hx226_0; clear hcc226 hce226; have HR226_0 := am hi226_0; have HC226_0 := am hl226_0; clear hi226_0 hl226_0; replace p226 := eq_true p226; replace q226 := eq_true q226
                                              have p227 : 0 ≤ ((ji83) : Int) := of_decide_eq_true ad
                                              have q227 : (ji83) < ((rd_L2 x5_5 (ji80)).length : Int) := of_decide_eq_true ad
                                              obtain ⟨ad227, e227, hx227_0⟩ := Kd.at_int (by repeat (first | (with_reducible exact HR226_0.out) | (with_reducible refine Kd.C_alloc ?_ _) | (with_reducible refine Kd.C_drewN ?_ _) | (with_reducible refine Kd.C_drew ?_) | exact HR226_0.out)) (ji83) p227 q227
                                              cases e227
                                              replace p227 := eq_true p227; replace q227 := eq_true q227
                                              have p228 : 0 ≤ (x8_4 : Int) := of_decide_eq_true ad
                                              have q228 : x8_4 < (x5_5.length : Int) := of_decide_eq_true ad
                                              obtain ⟨ad228, A228_0, c228_0, e228, hx228_0, hl228_0, hi228_0⟩ := at_L2 (Kd.S_reads' HO_5.out).2.2 x8_4 p228 q228
                                              obtain rfl : ad213 = ad228 := (by injection e228)
                                              obtain ⟨ce228, hce228, hMe228, hcc228⟩ := Kd.S_get HO_5.out [] x8_4 p228 (by first | exact q228 | exact of_decide_eq_true ad | (have e_ := (Kd.S_reads' HO_5.out).1; omega))
                                              obtain ⟨ve228_0, rfl, ge228_0⟩ := hMe228; have hv228_0 := hcc228 0 _ rfl; rw [Nat.add_zero, show ((Kd.slice 3 (Kd.int .i64))).sz = 1 from rfl, Nat.mul_one] at hv228_0; replace hv228_0 := Option.some.inj (hv228_0.symm.trans hx228_0); rw [hv228_0] at ge228_0; have HL228_0 := am (show Kd.R (Kd.int .i64) 3 _ _ _ _ (rd_L2 x5_5 x8_4) from ge228_0); clear hv228_0 ge228_0; have HX228_0 := am hx228_0; clear hcc228 hce228; have HR228_0 := am hi228_0; have HC228_0 := am hl228_0; clear hi228_0 hl228_0; replace p228 := eq_true p228; replace q228 := eq_true q228
                                              have p91 : 0 ≤ (x9_5 : Int) := of_decide_eq_true ad
                                              have q91 : (x9_5 : Int) < (((rd_L2 x5_5 x8_4).length : Int) : Int) := of_decide_eq_true ad
                                              obtain ⟨go91, co91, eo91, gb91, gl91, cl91, HG91⟩ := Kd.R_form HL228_0.out (by omega)
                                              (first | cases eo91 | (injection eo91 with ea_ en_ ec_; (first | subst ea_ | (injection ea_ with ea_; subst ea_)); subst ec_; clear en_))
                                              have GB91 := Aside0.mk gb91; have GG91 := am HG91; clear gb91 gl91 HG91; obtain ⟨hx91_0, hf91_0⟩ := Kd.R_celln 0 HL228_0.out (x9_5 : Int) p91 q91; replace p91 := eq_true p91; replace q91 := eq_true q91
                                              have hq92 : (x8_4 : Int) < (x5_5.length : Int) := b4_
                                              obtain ⟨oki92, ce92, hcl92, hM92, hcc92, hok92, hbk92⟩ := Kd.S_borrow HO_5.out [] (x8_4 : Int) (of_decide_eq_true ad) hq92; obtain ⟨ve92_0, rfl, ge92_0⟩ := hM92; have hv92 := hcc92 0 _ rfl; rw [Nat.add_zero, show ((Kd.slice 3 (Kd.int .i64))).sz = 1 from rfl, Nat.mul_one] at hv92; replace hv92 := Option.some.inj (hv92.symm.trans HX228_0.out); subst hv92; clear hcc92 hcl92; replace ge92_0 := (show Kd.R (Kd.int .i64) 3 _ _ _ _ (rd_L2 x5_5 x8_4) from ge92_0); have HP92 := Kd.R_putg ge92_0 (x9_5 : Int) ji86
                                              go_wp2_with (first | ((with_reducible refine gate_store (t := 3) (p := 154) rfl ?_); (try (rw [drewN_self wc]; generalize hq_ : World.drewN wc _ = wc; have n0_ := am (Kd.S_at hq_ HO_5.out); have n1_ := am (Kd.R_at hq_ HL238.out); have n2_ := am (below_at hq_ HB.out); clear hq_ HO_5 HL238 HB; have HO_5 := n0_; have HL238 := n1_; have HB := n2_; clear n0_ n1_ n2_; (try (have hq92 : (x8_4 : Int) < (x5_5.length : Int) := b4_)); (try (obtain ⟨oki92, ce92, hcl92, hM92, hcc92, hok92, hbk92⟩ := Kd.S_borrow HO_5.out [] (x8_4 : Int) (of_decide_eq_true ad) hq92)); (try (obtain ⟨ve92_0, rfl, ge92_0⟩ := hM92)); (try (have hv92 := hcc92 0 _ rfl)); (try (rw [Nat.add_zero, show ((Kd.slice 3 (Kd.int .i64))).sz = 1 from rfl, Nat.mul_one] at hv92)); (try (replace hv92 := Option.some.inj (hv92.symm.trans HX228_0.out))); (try (subst hv92)); (try (clear hcc92 hcl92)); (try (replace ge92_0 := (show Kd.R (Kd.int .i64) 3 _ _ _ _ (rd_L2 x5_5 x8_4) from ge92_0))); (try (have HP92 := Kd.R_putg ge92_0 (x9_5 : Int) ji86)))); refine store_event (t := 3) (p := 154) (v := ?vo_w93) (w1 := (wc.setCell ⟨go91, (x9_5 : Int).toNat, none⟩ (.int .i64 ji86))) ?hg ?ho ?hn ?hr ?_; (case ho => rfl); (case hg => rfl); (case hn => rfl); (case hr => first | (go_simp; done) | (go_simp; rfl)); intro w93 hw; have hg : wc.grownBy w93 (some go91) := (by rw [hw]; exact HP92.2); have hz_ : Kd.R (Kd.int .i64) 3 w93 w.heap.size oki92 (.slice (some ⟨go91, 0, none⟩) (rd_L2 x5_5 x8_4).length c228_0) y229 := (by rw [hw, Ny229.out]; exact HP92.1); have hp_ : Kd.S (Kd.slice 3 (Kd.int .i64)) 86 w93 w.heap.size (fun _ => True) (.slice (some ad213) x5_5.length co13) y231 := b28_; have hm_ := Kd.R_mono hz_ hok92; clear HP92 hbk92; replace HO_5 := am (hp_); replace HB := am ((by rw [hw]; exact below_set (HB.out) GB91.out : Below w.heap.size w w93)); have HL238 := am (hm_); have HC230 := am ((Kd.R_reads' hm_).2.1); clear HL226_0 HL228_0; clear hg hw hp_ hz_ hm_ hok92))
                                              repeat (go_quiet (first | ((with_reducible refine gate_store (t := 3) (p := 154) rfl ?_); (try (rw [drewN_self wc]; generalize hq_ : World.drewN wc _ = wc; have n0_ := am (Kd.S_at hq_ HO_5.out); have n1_ := am (Kd.R_at hq_ HL238.out); have n2_ := am (below_at hq_ HB.out); clear hq_ HO_5 HL238 HB; have HO_5 := n0_; have HL238 := n1_; have HB := n2_; clear n0_ n1_ n2_; (try (have hq92 : (x8_4 : Int) < (x5_5.length : Int) := b4_)); (try (obtain ⟨oki92, ce92, hcl92, hM92, hcc92, hok92, hbk92⟩ := Kd.S_borrow HO_5.out [] (x8_4 : Int) (of_decide_eq_true ad) hq92)); (try (obtain ⟨ve92_0, rfl, ge92_0⟩ := hM92)); (try (have hv92 := hcc92 0 _ rfl)); (try (rw [Nat.add_zero, show ((Kd.slice 3 (Kd.int .i64))).sz = 1 from rfl, Nat.mul_one] at hv92)); (try (replace hv92 := Option.some.inj (hv92.symm.trans HX228_0.out))); (try (subst hv92)); (try (clear hcc92 hcl92)); (try (replace ge92_0 := (show Kd.R (Kd.int .i64) 3 _ _ _ _ (rd_L2 x5_5 x8_4) from ge92_0))); (try (have HP92 := Kd.R_putg ge92_0 (x9_5 : Int) ji86)))); refine store_event (t := 3) (p := 154) (v := ?vo_w93) (w1 := (wc.setCell ⟨go91, (x9_5 : Int).toNat, none⟩ (.int .i64 ji86))) ?hg ?ho ?hn ?hr ?_; (case ho => rfl); (case hg => rfl); (case hn => rfl); (case hr => first | (go_simp; done) | (go_simp; rfl)); intro w93 hw; have hg : wc.grownBy w93 (some go91) := (by rw [hw]; exact HP92.2); have hz_ : Kd.R (Kd.int .i64) 3 w93 w.heap.size oki92 (.slice (some ⟨go91, 0, none⟩) (rd_L2 x5_5 x8_4).length c228_0) y229 := (by rw [hw, Ny229.out]; exact HP92.1); have hp_ : Kd.S (Kd.slice 3 (Kd.int .i64)) 86 w93 w.heap.size (fun _ => True) (.slice (some ad213) x5_5.length co13) y231 := b28_; have hm_ := Kd.R_mono hz_ hok92; clear HP92 hbk92; replace HO_5 := am (hp_); replace HB := am ((by rw [hw]; exact below_set (HB.out) GB91.out : Below w.heap.size w w93)); have HL238 := am (hm_); have HC230 := am ((Kd.R_reads' hm_).2.1); clear HL226_0 HL228_0; clear hg hw hp_ hz_ hm_ hok92)); try go_wp2_with (first | ((with_reducible refine gate_store (t := 3) (p := 154) rfl ?_); (try (rw [drewN_self wc]; generalize hq_ : World.drewN wc _ = wc; have n0_ := am (Kd.S_at hq_ HO_5.out); have n1_ := am (Kd.R_at hq_ HL238.out); have n2_ := am (below_at hq_ HB.out); clear hq_ HO_5 HL238 HB; have HO_5 := n0_; have HL238 := n1_; have HB := n2_; clear n0_ n1_ n2_; (try (have hq92 : (x8_4 : Int) < (x5_5.length : Int) := b4_)); (try (obtain ⟨oki92, ce92, hcl92, hM92, hcc92, hok92, hbk92⟩ := Kd.S_borrow HO_5.out [] (x8_4 : Int) (of_decide_eq_true ad) hq92)); (try (obtain ⟨ve92_0, rfl, ge92_0⟩ := hM92)); (try (have hv92 := hcc92 0 _ rfl)); (try (rw [Nat.add_zero, show ((Kd.slice 3 (Kd.int .i64))).sz = 1 from rfl, Nat.mul_one] at hv92)); (try (replace hv92 := Option.some.inj (hv92.symm.trans HX228_0.out))); (try (subst hv92)); (try (clear hcc92 hcl92)); (try (replace ge92_0 := (show Kd.R (Kd.int .i64) 3 _ _ _ _ (rd_L2 x5_5 x8_4) from ge92_0))); (try (have HP92 := Kd.R_putg ge92_0 (x9_5 : Int) ji86)))); refine store_event (t := 3) (p := 154) (v := ?vo_w93) (w1 := (wc.setCell ⟨go91, (x9_5 : Int).toNat, none⟩ (.int .i64 ji86))) ?hg ?ho ?hn ?hr ?_; (case ho => rfl); (case hg => rfl); (case hn => rfl); (case hr => first | (go_simp; done) | (go_simp; rfl)); intro w93 hw; have hg : wc.grownBy w93 (some go91) := (by rw [hw]; exact HP92.2); have hz_ : Kd.R (Kd.int .i64) 3 w93 w.heap.size oki92 (.slice (some ⟨go91, 0, none⟩) (rd_L2 x5_5 x8_4).length c228_0) y229 := (by rw [hw, Ny229.out]; exact HP92.1); have hp_ : Kd.S (Kd.slice 3 (Kd.int .i64)) 86 w93 w.heap.size (fun _ => True) (.slice (some ad213) x5_5.length co13) y231 := b28_; have hm_ := Kd.R_mono hz_ hok92; clear HP92 hbk92; replace HO_5 := am (hp_); replace HB := am ((by rw [hw]; exact below_set (HB.out) GB91.out : Below w.heap.size w w93)); have HL238 := am (hm_); have HC230 := am ((Kd.R_reads' hm_).2.1); clear HL226_0 HL228_0; clear hg hw hp_ hz_ hm_ hok92)))
                                              (try simp only [← hl5_5])
                                              go_roundg kj62
                                              case measure => have := HJ2.out; have := HK2.out; have := HK3.out; have := HK4.out; have := HK5.out; have := HJ48.out; have := HJ62.out; omega
                                              case rel => exact ⟨(y231), (wrap64 (x9_5 + 1)), sq, H', ⟨b37_⟩, ⟨b2_⟩, ⟨bel⟩⟩
                                             ·rw [if_neg c90] at H
                                              exact absurd H (by simp)
                                            ·rw [if_neg c89] at H
                                             exact absurd H (by simp)
                                           ·rw [if_neg c88] at H
                                            exact absurd H (by simp)
                                          ·rw [if_neg c87] at H
                                           exact absurd H (by simp)
                                         ·rw [if_neg c85] at H
                                          exact absurd H (by simp)
                                        ·rw [if_neg c84] at H
                                         exact absurd H (by simp)
                                       ·rw [if_neg c82] at H
                                        exact absurd H (by simp)
                                      ·rw [if_neg c81] at H
                                       exact absurd H (by simp)
                                     ·replace c79 := Bool.eq_false_iff.mpr c79; subst c79
                                      have H1 : (if 0 ≤ x8_4 then (if x8_4 < (x5_5.length : Int) then (if 0 ≤ x9_5 then (if x9_5 < ((rd_L2 x5_5 x8_4).length : Int) then (impl_Far.l3 kj62 a0 a1 (x5_5.set (x8_4 : Int).toNat ((rd_L2 x5_5 x8_4).set (x9_5 : Int).toNat ji62)) x8_4 (wrap64 (x9_5 + 1))) else (none)) else (none)) else (none)) else (none)) = some r := b5_
                                      replace H := H1; clear H1
                                      by_cases c94 : 0 ≤ x8_4
                                      ·rw [if_pos c94] at H; have c94b0 := decide_eq_true c94; clear c94
                                       by_cases c95 : x8_4 < (x5_5.length : Int)
                                       ·rw [if_pos c95] at H; have c95b0 := decide_eq_true c95
                                        try have c95b8 := c95b0
                                        try simp only [hl5_2] at c95b8
                                        try simp only [hl5_3] at c95b8
                                        try simp only [hl5_4] at c95b8
                                        try simp only [hl5_5] at c95b8
                                        clear c95
                                        by_cases c96 : 0 ≤ x9_5
                                        ·rw [if_pos c96] at H; have c96b0 := decide_eq_true c96; clear c96
                                         by_cases c97 : x9_5 < ((rd_L2 x5_5 x8_4).length : Int)
                                         ·rw [if_pos c97] at H; have c97b0 := decide_eq_true c97
                                          try have c97b8 := c97b0
                                          try simp only [hl5_2] at c97b8
                                          try simp only [hl5_3] at c97b8
                                          try simp only [hl5_4] at c97b8
                                          try simp only [hl5_5] at c97b8
                                          clear c97; obtain ⟨y233, hy233⟩ : ∃ y_ : List Int, y_ = ((rd_L2 x5_5 x8_4).set (x9_5 : Int).toNat ji62) := ⟨_, rfl⟩
                                          replace H : (impl_Far.l3 kj62 a0 a1 (x5_5.set (x8_4 : Int).toNat y233) x8_4 (wrap64 (x9_5 + 1))) = some r := by first | (rw [hy233]; with_reducible exact H) | (have H2_ := (Option.bind_some _ _).symm.trans H; rw [hy233]; with_reducible exact H2_) | (have H2_ := (Option.bind_some _ _).symm.trans H; with_reducible exact H2_) | with_reducible exact H | (rw [hy233]; exact H) | exact H
                                          have Ny233 := am hy233; clear hy233; obtain ⟨y235, hy235⟩ : ∃ y_ : List (List Int), y_ = (x5_5.set (x8_4 : Int).toNat y233) := ⟨_, rfl⟩
                                          replace H : (impl_Far.l3 kj62 a0 a1 y235 x8_4 (wrap64 (x9_5 + 1))) = some r := by first | (rw [hy235]; with_reducible exact H) | (have H2_ := (Option.bind_some _ _).symm.trans H; rw [hy235]; with_reducible exact H2_) | (have H2_ := (Option.bind_some _ _).symm.trans H; with_reducible exact H2_) | with_reducible exact H | (rw [hy235]; exact H) | exact H
                                          have Ny235 := am hy235; clear hy235
                                          have H' := am H
                                          clear H
                                          have p232 : 0 ≤ (x8_4 : Int) := of_decide_eq_true ad
                                          have q232 : x8_4 < (x5_5.length : Int) := of_decide_eq_true ad
                                          obtain ⟨ad232, A232_0, c232_0, e232, hx232_0, hl232_0, hi232_0⟩ := at_L2 (Kd.S_reads' HO_5.out).2.2 x8_4 p232 q232
                                          obtain rfl : ad213 = ad232 := (by injection e232)
                                          obtain ⟨ce232, hce232, hMe232, hcc232⟩ := Kd.S_get HO_5.out [] x8_4 p232 (by first | exact q232 | exact of_decide_eq_true ad | (have e_ := (Kd.S_reads' HO_5.out).1; omega))
                                          obtain ⟨ve232_0, rfl, ge232_0⟩ := hMe232; have hv232_0 := hcc232 0 _ rfl; rw [Nat.add_zero, show ((Kd.slice 3 (Kd.int .i64))).sz = 1 from rfl, Nat.mul_one] at hv232_0; replace hv232_0 := Option.some.inj (hv232_0.symm.trans hx232_0); rw [hv232_0] at ge232_0; have HL232_0 := am (show Kd.R (Kd.int .i64) 3 _ _ _ _ (rd_L2 x5_5 x8_4) from ge232_0); clear hv232_0 ge232_0; have HX232_0 := am hx232_0; clear hcc232 hce232; have HR232_0 := am hi232_0; have HC232_0 := am hl232_0; clear hi232_0 hl232_0; replace p232 := eq_true p232; replace q232 := eq_true q232
                                          have p98 : 0 ≤ (x9_5 : Int) := of_decide_eq_true ad
                                          have q98 : (x9_5 : Int) < (((rd_L2 x5_5 x8_4).length : Int) : Int) := of_decide_eq_true ad
                                          obtain ⟨go98, co98, eo98, gb98, gl98, cl98, HG98⟩ := Kd.R_form HL232_0.out (by omega)
                                          (first | cases eo98 | (injection eo98 with ea_ en_ ec_; (first | subst ea_ | (injection ea_ with ea_; subst ea_)); subst ec_; clear en_))
                                          have GB98 := Aside0.mk gb98; have GG98 := am HG98; clear gb98 gl98 HG98; obtain ⟨hx98_0, hf98_0⟩ := Kd.R_celln 0 HL232_0.out (x9_5 : Int) p98 q98; replace p98 := eq_true p98; replace q98 := eq_true q98
                                          have hq99 : (x8_4 : Int) < (x5_5.length : Int) := b4_
                                          obtain ⟨oki99, ce99, hcl99, hM99, hcc99, hok99, hbk99⟩ := Kd.S_borrow HO_5.out [] (x8_4 : Int) (of_decide_eq_true ad) hq99; obtain ⟨ve99_0, rfl, ge99_0⟩ := hM99; have hv99 := hcc99 0 _ rfl; rw [Nat.add_zero, show ((Kd.slice 3 (Kd.int .i64))).sz = 1 from rfl, Nat.mul_one] at hv99; replace hv99 := Option.some.inj (hv99.symm.trans HX232_0.out); subst hv99; clear hcc99 hcl99; replace ge99_0 := (show Kd.R (Kd.int .i64) 3 _ _ _ _ (rd_L2 x5_5 x8_4) from ge99_0); have HP99 := Kd.R_putg ge99_0 (x9_5 : Int) ji62
                                          go_wp2_with (first | ((with_reducible refine gate_store (t := 3) (p := 154) rfl ?_); (try (rw [drewN_self wc]; generalize hq_ : World.drewN wc _ = wc; have n0_ := am (Kd.S_at hq_ HO_5.out); have n1_ := am (Kd.R_at hq_ HL239.out); have n2_ := am (below_at hq_ HB.out); clear hq_ HO_5 HL239 HB; have HO_5 := n0_; have HL239 := n1_; have HB := n2_; clear n0_ n1_ n2_; (try (have hq99 : (x8_4 : Int) < (x5_5.length : Int) := b4_)); (try (obtain ⟨oki99, ce99, hcl99, hM99, hcc99, hok99, hbk99⟩ := Kd.S_borrow HO_5.out [] (x8_4 : Int) (of_decide_eq_true ad) hq99)); (try (obtain ⟨ve99_0, rfl, ge99_0⟩ := hM99)); (try (have hv99 := hcc99 0 _ rfl)); (try (rw [Nat.add_zero, show ((Kd.slice 3 (Kd.int .i64))).sz = 1 from rfl, Nat.mul_one] at hv99)); (try (replace hv99 := Option.some.inj (hv99.symm.trans HX232_0.out))); (try (subst hv99)); (try (clear hcc99 hcl99)); (try (replace ge99_0 := (show Kd.R (Kd.int .i64) 3 _ _ _ _ (rd_L2 x5_5 x8_4) from ge99_0))); (try (have HP99 := Kd.R_putg ge99_0 (x9_5 : Int) ji62)))); refine store_event (t := 3) (p := 154) (v := ?vo_w100) (w1 := (wc.setCell ⟨go98, (x9_5 : Int).toNat, none⟩ (.int .i64 ji62))) ?hg ?ho ?hn ?hr ?_; (case ho => rfl); (case hg => rfl); (case hn => rfl); (case hr => first | (go_simp; done) | (go_simp; rfl)); intro w100 hw; have hg : wc.grownBy w100 (some go98) := (by rw [hw]; exact HP99.2); have hz_ : Kd.R (Kd.int .i64) 3 w100 w.heap.size oki99 (.slice (some ⟨go98, 0, none⟩) (rd_L2 x5_5 x8_4).length c232_0) y233 := (by rw [hw, Ny233.out]; exact HP99.1); have hp_ : Kd.S (Kd.slice 3 (Kd.int .i64)) 86 w100 w.heap.size (fun _ => True) (.slice (some ad213) x5_5.length co13) y235 := b29_; have hm_ := Kd.R_mono hz_ hok99; clear HP99 hbk99; replace HO_5 := am (hp_); replace HB := am ((by rw [hw]; exact below_set (HB.out) GB98.out : Below w.heap.size w w100)); have HL239 := am (hm_); have HC234 := am ((Kd.R_reads' hm_).2.1); clear HL232_0; clear hg hw hp_ hz_ hm_ hok99))
                                          repeat (go_quiet (first | ((with_reducible refine gate_store (t := 3) (p := 154) rfl ?_); (try (rw [drewN_self wc]; generalize hq_ : World.drewN wc _ = wc; have n0_ := am (Kd.S_at hq_ HO_5.out); have n1_ := am (Kd.R_at hq_ HL239.out); have n2_ := am (below_at hq_ HB.out); clear hq_ HO_5 HL239 HB; have HO_5 := n0_; have HL239 := n1_; have HB := n2_; clear n0_ n1_ n2_; (try (have hq99 : (x8_4 : Int) < (x5_5.length : Int) := b4_)); (try (obtain ⟨oki99, ce99, hcl99, hM99, hcc99, hok99, hbk99⟩ := Kd.S_borrow HO_5.out [] (x8_4 : Int) (of_decide_eq_true ad) hq99)); (try (obtain ⟨ve99_0, rfl, ge99_0⟩ := hM99)); (try (have hv99 := hcc99 0 _ rfl)); (try (rw [Nat.add_zero, show ((Kd.slice 3 (Kd.int .i64))).sz = 1 from rfl, Nat.mul_one] at hv99)); (try (replace hv99 := Option.some.inj (hv99.symm.trans HX232_0.out))); (try (subst hv99)); (try (clear hcc99 hcl99)); (try (replace ge99_0 := (show Kd.R (Kd.int .i64) 3 _ _ _ _ (rd_L2 x5_5 x8_4) from ge99_0))); (try (have HP99 := Kd.R_putg ge99_0 (x9_5 : Int) ji62)))); refine store_event (t := 3) (p := 154) (v := ?vo_w100) (w1 := (wc.setCell ⟨go98, (x9_5 : Int).toNat, none⟩ (.int .i64 ji62))) ?hg ?ho ?hn ?hr ?_; (case ho => rfl); (case hg => rfl); (case hn => rfl); (case hr => first | (go_simp; done) | (go_simp; rfl)); intro w100 hw; have hg : wc.grownBy w100 (some go98) := (by rw [hw]; exact HP99.2); have hz_ : Kd.R (Kd.int .i64) 3 w100 w.heap.size oki99 (.slice (some ⟨go98, 0, none⟩) (rd_L2 x5_5 x8_4).length c232_0) y233 := (by rw [hw, Ny233.out]; exact HP99.1); have hp_ : Kd.S (Kd.slice 3 (Kd.int .i64)) 86 w100 w.heap.size (fun _ => True) (.slice (some ad213) x5_5.length co13) y235 := b29_; have hm_ := Kd.R_mono hz_ hok99; clear HP99 hbk99; replace HO_5 := am (hp_); replace HB := am ((by rw [hw]; exact below_set (HB.out) GB98.out : Below w.heap.size w w100)); have HL239 := am (hm_); have HC234 := am ((Kd.R_reads' hm_).2.1); clear HL232_0; clear hg hw hp_ hz_ hm_ hok99)); try go_wp2_with (first | ((with_reducible refine gate_store (t := 3) (p := 154) rfl ?_); (try (rw [drewN_self wc]; generalize hq_ : World.drewN wc _ = wc; have n0_ := am (Kd.S_at hq_ HO_5.out); have n1_ := am (Kd.R_at hq_ HL239.out); have n2_ := am (below_at hq_ HB.out); clear hq_ HO_5 HL239 HB; have HO_5 := n0_; have HL239 := n1_; have HB := n2_; clear n0_ n1_ n2_; (try (have hq99 : (x8_4 : Int) < (x5_5.length : Int) := b4_)); (try (obtain ⟨oki99, ce99, hcl99, hM99, hcc99, hok99, hbk99⟩ := Kd.S_borrow HO_5.out [] (x8_4 : Int) (of_decide_eq_true ad) hq99)); (try (obtain ⟨ve99_0, rfl, ge99_0⟩ := hM99)); (try (have hv99 := hcc99 0 _ rfl)); (try (rw [Nat.add_zero, show ((Kd.slice 3 (Kd.int .i64))).sz = 1 from rfl, Nat.mul_one] at hv99)); (try (replace hv99 := Option.some.inj (hv99.symm.trans HX232_0.out))); (try (subst hv99)); (try (clear hcc99 hcl99)); (try (replace ge99_0 := (show Kd.R (Kd.int .i64) 3 _ _ _ _ (rd_L2 x5_5 x8_4) from ge99_0))); (try (have HP99 := Kd.R_putg ge99_0 (x9_5 : Int) ji62)))); refine store_event (t := 3) (p := 154) (v := ?vo_w100) (w1 := (wc.setCell ⟨go98, (x9_5 : Int).toNat, none⟩ (.int .i64 ji62))) ?hg ?ho ?hn ?hr ?_; (case ho => rfl); (case hg => rfl); (case hn => rfl); (case hr => first | (go_simp; done) | (go_simp; rfl)); intro w100 hw; have hg : wc.grownBy w100 (some go98) := (by rw [hw]; exact HP99.2); have hz_ : Kd.R (Kd.int .i64) 3 w100 w.heap.size oki99 (.slice (some ⟨go98, 0, none⟩) (rd_L2 x5_5 x8_4).length c232_0) y233 := (by rw [hw, Ny233.out]; exact HP99.1); have hp_ : Kd.S (Kd.slice 3 (Kd.int .i64)) 86 w100 w.heap.size (fun _ => True) (.slice (some ad213) x5_5.length co13) y235 := b29_; have hm_ := Kd.R_mono hz_ hok99; clear HP99 hbk99; replace HO_5 := am (hp_); replace HB := am ((by rw [hw]; exact below_set (HB.out) GB98.out : Below w.heap.size w w100)); have HL239 := am (hm_); have HC234 := am ((Kd.R_reads' hm_).2.1); clear HL232_0; clear hg hw hp_ hz_ hm_ hok99)))
                                          (try simp only [← hl5_5])
                                          go_roundg kj62
                                          case measure => have := HJ2.out; have := HK2.out; have := HK3.out; have := HK4.out; have := HK5.out; have := HJ48.out; have := HJ62.out; omega
                                          case rel => exact ⟨(y235), (wrap64 (x9_5 + 1)), sq, H', ⟨b37_⟩, ⟨b2_⟩, ⟨bel⟩⟩
                                         ·rw [if_neg c97] at H
                                          exact absurd H (by simp)
                                        ·rw [if_neg c96] at H
                                         exact absurd H (by simp)
                                       ·rw [if_neg c95] at H
                                        exact absurd H (by simp)
                                      ·rw [if_neg c94] at H
                                       exact absurd H (by simp)
                                  ·rw [if_neg c60] at H
                                   exact absurd H (by simp)
                                 ·rw [if_neg c59] at H
                                  exact absurd H (by simp)
                                ·rw [if_neg c57] at H
                                 exact absurd H (by simp)
                               ·rw [if_neg c56] at H
                                exact absurd H (by simp)
                              ·rw [if_neg c55] at H
                               exact absurd H (by simp)
                             ·rw [if_neg c54] at H
                              exact absurd H (by simp)
                            ·rw [if_neg c53] at H
                             exact absurd H (by simp)
                           ·rw [if_neg c52] at H
                            exact absurd H (by simp)
                        ·rw [if_neg c47] at H
                         exact absurd H (by simp)
                       ·rw [if_neg c45] at H
                        exact absurd H (by simp)
                      ·rw [if_neg c44] at H
                       exact absurd H (by simp)
                     ·rw [if_neg c43] at H
                      exact absurd H (by simp)
                    ·rw [if_neg c41] at H
                     exact absurd H (by simp)
                   ·rw [if_neg c40] at H
                    exact absurd H (by simp)
                  ·rw [if_neg c38] at H; have c38b0 := decide_eq_false c38; clear c38
                   have H' := am H
                   clear H; go_wp2
                   repeat (go_quiet (fail); try go_wp2)
                   (try simp only [← hl5_4, ← hl5_5])
                   go_roundg k5
                   case measure => have := HJ2.out; have := HK2.out; have := HK3.out; have := HK4.out; have := HK5.out; omega
                   case rel => exact ⟨(x5_5), (wrap64 (x8_4 + 1)), sq, H', ⟨by have := HJ2.out; have := HK2.out; have := HK3.out; have := HK4.out; have := HK5.out; omega⟩, ⟨b2_⟩, ⟨bel⟩⟩
               ·rw [if_neg c37] at H; have c37b0 := decide_eq_false c37; clear c37
                by_cases c101 : 0 ≤ (a0.size : Int)
                ·rw [if_pos c101] at H; have c101b0 := decide_eq_true c101
                 have c101b1 : decide (0 ≤ a0.size) = true := decide_eq_true (by omega)
                 clear c101
                 by_cases c102 : (a0.size : Int) < (x5_4.length : Int)
                 ·rw [if_pos c102] at H; have c102b0 := decide_eq_true c102
                  try have c102b8 := c102b0
                  try simp only [hl5_2] at c102b8
                  try simp only [hl5_3] at c102b8
                  try simp only [hl5_4] at c102b8
                  try simp only [hl5_5] at c102b8
                  have c102b1 : decide (a0.size < x5_4.length) = true := decide_eq_true (Int.ofNat_lt.mp c102)
                  clear c102
                  by_cases c103 : 0 ≤ (a1.size : Int)
                  ·rw [if_pos c103] at H; have c103b0 := decide_eq_true c103
                   have c103b1 : decide (0 ≤ a1.size) = true := decide_eq_true (by omega)
                   clear c103
                   by_cases c104 : (a1.size : Int) < ((rd_L2 x5_4 (a0.size : Int)).length : Int)
                   ·rw [if_pos c104] at H; have c104b0 := decide_eq_true c104
                    try have c104b8 := c104b0
                    try simp only [hl5_2] at c104b8
                    try simp only [hl5_3] at c104b8
                    try simp only [hl5_4] at c104b8
                    try simp only [hl5_5] at c104b8
                    have c104b1 : decide (a1.size < (rd_L2 x5_4 (a0.size : Int)).length) = true := decide_eq_true (Int.ofNat_lt.mp c104)
                    clear c104; obtain rfl := Option.some.inj H
                    have p218 : 0 ≤ ((a0.size : Int) : Int) := of_decide_eq_true ad
                    have q218 : (a0.size : Int) < (x5_4.length : Int) := of_decide_eq_true ad
                    obtain ⟨ad218, A218_0, c218_0, e218, hx218_0, hl218_0, hi218_0⟩ := at_L2 (Kd.S_reads' HO_5.out).2.2 (a0.size : Int) p218 q218
                    obtain rfl : ad213 = ad218 := (by injection e218)
                    obtain ⟨ce218, hce218, hMe218, hcc218⟩ := Kd.S_get HO_5.out [] (a0.size : Int) p218 (by first | exact q218 | exact of_decide_eq_true ad | (have e_ := (Kd.S_reads' HO_5.out).1; omega))
                    obtain ⟨ve218_0, rfl, ge218_0⟩ := hMe218; have hv218_0 := hcc218 0 _ rfl; rw [Nat.add_zero, show ((Kd.slice 3 (Kd.int .i64))).sz = 1 from rfl, Nat.mul_one] at hv218_0; replace hv218_0 := Option.some.inj (hv218_0.symm.trans hx218_0); rw [hv218_0] at ge218_0; have HL218_0 := am (show Kd.R (Kd.int .i64) 3 _ _ _ _ (rd_L2 x5_4 (a0.size : Int)) from ge218_0); clear hv218_0 ge218_0; have HX218_0 := am hx218_0; clear hcc218 hce218; have HR218_0 := am hi218_0; have HC218_0 := am hl218_0; clear hi218_0 hl218_0; replace p218 := eq_true p218; replace q218 := eq_true q218
                    (try have qn218 : (a0.size < x5_4.length) = True := eq_true (by have h_ := of_eq_true q218; omega))
                    (try simp only [Int.toNat_natCast] at hx218_0)
                    have p219 : 0 ≤ ((a1.size : Int) : Int) := of_decide_eq_true ad
                    have q219 : (a1.size : Int) < ((rd_L2 x5_4 (a0.size : Int)).length : Int) := of_decide_eq_true ad
                    obtain ⟨ad219, e219, hx219_0⟩ := Kd.at_int (by repeat (first | (with_reducible exact HR218_0.out) | (with_reducible refine Kd.C_alloc ?_ _) | (with_reducible refine Kd.C_drewN ?_ _) | (with_reducible refine Kd.C_drew ?_) | exact HR218_0.out)) (a1.size : Int) p219 q219
                    cases e219
                    replace p219 := eq_true p219; replace q219 := eq_true q219
                    (try have qn219 : (a1.size < (rd_L2 x5_4 (a0.size : Int)).length) = True := eq_true (by have h_ := of_eq_true q219; omega))
                    (try simp only [Int.toNat_natCast] at hx219_0)
                    go_wp2
                    repeat (go_quiet (fail); try go_wp2)
                    go_ret
                    exact ⟨by first | rfl | (simp [errW_none, errW_some] <;> rfl) | (simp only [← hji8]; first | rfl | (simp [errW_none, errW_some] <;> rfl)) | (simp [*, errW_none, errW_some] <;> rfl), bel⟩
                   ·rw [if_neg c104] at H
                    exact absurd H (by simp)
                  ·rw [if_neg c103] at H
                   exact absurd H (by simp)
                 ·rw [if_neg c102] at H
                  exact absurd H (by simp)
                ·rw [if_neg c101] at H
                 exact absurd H (by simp)
         ·rw [if_neg c29] at H
          exact absurd H (by simp)
     ·rw [if_neg c10] at H
      exact absurd H (by simp)
    ·rw [if_neg c9] at H
     exact absurd H (by simp)

end Go.Proofs.Ytfpmfaelodfecaa.QFnExactGuesses
