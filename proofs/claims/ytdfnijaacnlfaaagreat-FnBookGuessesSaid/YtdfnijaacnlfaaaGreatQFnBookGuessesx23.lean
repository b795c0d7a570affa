import Derived.Test.YtdfnijaacnlfaaaGreatQFnBookGuessesx0
import Derived.Test.YtdfnijaacnlfaaaGreatQFnBookGuessesx15
import Derived.Test.YtdfnijaacnlfaaaGreatVMSh2
namespace Go.Proofs.YtdfnijaacnlfaaaGreat.QFnBookGuesses
open Go.RowKit Go.Proofs.YtdfnijaacnlfaaaGreatW.PrintWords Go.Proofs.YtdfnijaacnlfaaaGreatW.PrintLast Go.Proofs.YtdfnijaacnlfaaaGreatW.PrintMore Go.Proofs.YtdfnijaacnlfaaaGreat.Sh
attribute [local go_sem] max2_int min2_int max_two min_two max_three min_three max_four min_four
set_option linter.unusedVariables false
set_option linter.unusedSimpArgs false
-- shrunk

/-! ### impl_Far: function 11 -/
mutual
def impl_Far.j0 : Nat → ByteArray → ByteArray → Bool → Option (Int)
 | 0, _, _, _ => none
 | k + 1, x0, x1, x18 => if x18 = true then (some (-1)) else (if 0 ≤ (wrap64 ((x0.size : Int) + 1)) then (if (wrap64 ((x0.size : Int) + 1) : Int).toNat ≤ 11728124029610 then ((some (List.replicate (wrap64 ((x0.size : Int) + 1) : Int).toNat [] : List (List Int))).bind fun y522 => (impl_Far.l0 k x0 x1 y522 (y522.length : Int) 0)) else (none)) else (none))
def impl_Far.l0 : Nat → ByteArray → ByteArray → List (List Int) → Int → Int → Option (Int)
 | 0, _, _, _, _, _ => none
 | k + 1, x0, x1, x5, x24, x25 => if x25 < x24 then (if 0 ≤ (wrap64 ((x1.size : Int) + 1)) then (if (wrap64 ((x1.size : Int) + 1) : Int).toNat ≤ 35184372088832 then (if 0 ≤ x25 then (if x25 < (x5.length : Int) then ((some (x5.set (x25 : Int).toNat (List.replicate (wrap64 ((x1.size : Int) + 1) : Int).toNat 0) : List (List Int))).bind fun y528 => (if 0 < ((rd_L6 y528 x25).length : Int) then (impl_Far.l0 k x0 x1 (y528.set (x25 : Int).toNat ((rd_L6 y528 x25).set (0 : Int).toNat x25)) x24 (wrap64 (x25 + 1))) else (none))) else (none)) else (none)) else (none)) else (none)) else (if 0 < (x5.length : Int) then (impl_Far.l1 k x0 x1 x5 ((rd_L6 x5 0).length : Int) 0) else (none))
def impl_Far.l1 : Nat → ByteArray → ByteArray → List (List Int) → Int → Int → Option (Int)
 | 0, _, _, _, _, _ => none
 | k + 1, x0, x1, x5, x45, x46 => if x46 < x45 then (if 0 < (x5.length : Int) then (if 0 ≤ x46 then (if x46 < ((rd_L6 x5 0).length : Int) then (impl_Far.l1 k x0 x1 (x5.set (0 : Int).toNat ((rd_L6 x5 0).set (x46 : Int).toNat x46)) x45 (wrap64 (x46 + 1))) else (none)) else (none)) else (none)) else (impl_Far.l2 k x0 x1 x5 1)
def impl_Far.l2 : Nat → ByteArray → ByteArray → List (List Int) → Int → Option (Int)
 | 0, _, _, _, _ => none
 | k + 1, x0, x1, x5, x8 => if x8 ≤ (x0.size : Int) then (impl_Far.l3 k x0 x1 x5 x8 1) else (if 0 ≤ (x0.size : Int) then (if (x0.size : Int) < (x5.length : Int) then (if 0 ≤ (x1.size : Int) then (if (x1.size : Int) < ((rd_L6 x5 (x0.size : Int)).length : Int) then (some (rd (rd_L6 x5 (x0.size : Int)) (x1.size : Int))) else (none)) else (none)) else (none)) else (none))
def impl_Far.l3 : Nat → ByteArray → ByteArray → List (List Int) → Int → Int → Option (Int)
 | 0, _, _, _, _, _ => none
 | k + 1, x0, x1, x5, x8, x9 => if x9 ≤ (x1.size : Int) then (if 0 ≤ (wrap64 (x8 - 1)) then (if (wrap64 (x8 - 1)) < (x5.length : Int) then (if 0 ≤ (wrap64 (x9 - 1)) then (if (wrap64 (x9 - 1)) < ((rd_L6 x5 (wrap64 (x8 - 1))).length : Int) then (if (wrap64 (x8 - 1)) < (x0.size : Int) then (if (wrap64 (x9 - 1)) < (x1.size : Int) then (if (bt x0 (wrap64 (x8 - 1))) = (bt x1 (wrap64 (x9 - 1))) then (impl_Far.j5 k x0 x1 x5 x8 x9 (rd (rd_L6 x5 (wrap64 (x8 - 1))) (wrap64 (x9 - 1)))) else (impl_Far.j5 k x0 x1 x5 x8 x9 (wrap64 ((rd (rd_L6 x5 (wrap64 (x8 - 1))) (wrap64 (x9 - 1))) + 1)))) else (none)) else (none)) else (none)) else (none)) else (none)) else (none)) else (impl_Far.l2 k x0 x1 x5 (wrap64 (x8 + 1)))
def impl_Far.j5 : Nat → ByteArray → ByteArray → List (List Int) → Int → Int → Int → Option (Int)
 | 0, _, _, _, _, _, _ => none
 | k + 1, x0, x1, x5, x8, x9, x10 => if 0 ≤ (wrap64 (x8 - 1)) then (if (wrap64 (x8 - 1)) < (x5.length : Int) then (if 0 ≤ x9 then (if x9 < ((rd_L6 x5 (wrap64 (x8 - 1))).length : Int) then (if 0 ≤ x8 then (if x8 < (x5.length : Int) then (if 0 ≤ (wrap64 (x9 - 1)) then (if (wrap64 (x9 - 1)) < ((rd_L6 x5 x8).length : Int) then (if x8 > 1 then (if x9 > 1 then (if (wrap64 (x8 - 1)) < (x0.size : Int) then (if 0 ≤ (wrap64 (x9 - 2)) then (if (wrap64 (x9 - 2)) < (x1.size : Int) then (if (bt x0 (wrap64 (x8 - 1))) = (bt x1 (wrap64 (x9 - 2))) then (if 0 ≤ (wrap64 (x8 - 2)) then (if (wrap64 (x8 - 2)) < (x0.size : Int) then (if (wrap64 (x9 - 1)) < (x1.size : Int) then (impl_Far.j6 k x0 x1 x5 x8 x9 (mn (mn x10 (wrap64 ((rd (rd_L6 x5 (wrap64 (x8 - 1))) x9) + 1))) (wrap64 ((rd (rd_L6 x5 x8) (wrap64 (x9 - 1))) + 1))) ((bt x0 (wrap64 (x8 - 2))) == (bt x1 (wrap64 (x9 - 1))))) else (none)) else (none)) else (none)) else (impl_Far.j6 k x0 x1 x5 x8 x9 (mn (mn x10 (wrap64 ((rd (rd_L6 x5 (wrap64 (x8 - 1))) x9) + 1))) (wrap64 ((rd (rd_L6 x5 x8) (wrap64 (x9 - 1))) + 1))) false)) else (none)) else (none)) else (none)) else (impl_Far.j6 k x0 x1 x5 x8 x9 (mn (mn x10 (wrap64 ((rd (rd_L6 x5 (wrap64 (x8 - 1))) x9) + 1))) (wrap64 ((rd (rd_L6 x5 x8) (wrap64 (x9 - 1))) + 1))) false)) else (impl_Far.j6 k x0 x1 x5 x8 x9 (mn (mn x10 (wrap64 ((rd (rd_L6 x5 (wrap64 (x8 - 1))) x9) + 1))) (wrap64 ((rd (rd_L6 x5 x8) (wrap64 (x9 - 1))) + 1))) false)) else (none)) else (none)) else (none)) else (none)) else (none)) else (none)) else (none)) else (none)
def impl_Far.j6 : Nat → ByteArray → ByteArray → List (List Int) → Int → Int → Int → Bool → Option (Int)
 | 0, _, _, _, _, _, _, _ => none
 | k + 1, x0, x1, x5, x8, x9, x10, x135 => if x135 = true then (if 0 ≤ (wrap64 (x8 - 2)) then (if (wrap64 (x8 - 2)) < (x5.length : Int) then (if 0 ≤ (wrap64 (x9 - 2)) then (if (wrap64 (x9 - 2)) < ((rd_L6 x5 (wrap64 (x8 - 2))).length : Int) then (if 0 ≤ x8 then (if x8 < (x5.length : Int) then (if 0 ≤ x9 then (if x9 < ((rd_L6 x5 x8).length : Int) then (impl_Far.l3 k x0 x1 (x5.set (x8 : Int).toNat ((rd_L6 x5 x8).set (x9 : Int).toNat (mn x10 (wrap64 ((rd (rd_L6 x5 (wrap64 (x8 - 2))) (wrap64 (x9 - 2))) + 1))))) x8 (wrap64 (x9 + 1))) else (none)) else (none)) else (none)) else (none)) else (none)) else (none)) else (none)) else (none)) else (if 0 ≤ x8 then (if x8 < (x5.length : Int) then (if 0 ≤ x9 then (if x9 < ((rd_L6 x5 x8).length : Int) then (impl_Far.l3 k x0 x1 (x5.set (x8 : Int).toNat ((rd_L6 x5 x8).set (x9 : Int).toNat x10)) x8 (wrap64 (x9 + 1))) else (none)) else (none)) else (none)) else (none))
end
def impl_Far.f (k : Nat) (a0 : ByteArray) (a1 : ByteArray) : Option (Int) := (impl_WordOk.f k a0).bind fun t520 => (if t520 = true then ((impl_WordOk.f k a1).bind fun t521 => (impl_Far.j0 k a0 a1 (!t521))) else (impl_Far.j0 k a0 a1 true))
set_option maxHeartbeats 8000000 in
set_option maxRecDepth 100000 in
theorem impl_Far.calls (k : Nat) (a0 : ByteArray) (a1 : ByteArray) (r : Int) (w : World) (h : impl_Far.f k a0 a1 = some r) :
  Calls Tryz.prog 11 #[.string a0, .string a1] w fun e w' => e = .returned (.int .i64 r) ∧ Below w.heap.size w w' := by
 have HB := am (Below.refl w.heap.size w)
 have H := h; unfold impl_Far.f at H
 clear h; have HC3 := am H; clear H; go_enter Tryz.func11, Tryz.ntmps11
 go_upto_region 1 with (fail)
 repeat (go_quiet (fail); go_upto_region 1 with (fail))
 go_cut [18] (fun v18 wc => ∃ (kq : Nat) (x18_2 : Bool), v18 = .bool x18_2 ∧ Aside0 (impl_Far.j0 kq a0 a1 x18_2 = some r) ∧ Aside0 (kq ≤ k) ∧ Aside0 (Below w.heap.size w wc))
 case first =>
  have H := HC3.out; clear HC3; replace H := bs H; obtain ⟨t520, A40, H⟩ := H; have A4 := Aside0.mk A40; clear A40
  by_cases c5 : t520 = true
  ·subst c5
   have H1 : ((impl_WordOk.f k a1).bind fun t521 => (impl_Far.j0 k a0 a1 (!t521))) = some r := b26_
   replace H := H1; clear H1
   replace H := bs H; obtain ⟨t521, A60, H⟩ := H; have A6 := Aside0.mk A60; clear A60
   have H' := am H
   clear H
   go_wp2_with (first | (go_at_call 18; (with_reducible refine (impl_WordOk.calls k a0 true _ A4.out).mono ?_); rintro e w' ⟨rfl, ⟨nd, rfl⟩⟩) | (go_at_call 18; (with_reducible refine (impl_WordOk.calls k a1 t521 _ A6.out).mono ?_); rintro e w' ⟨rfl, ⟨nd, rfl⟩⟩))
   repeat (go_quiet (fail); try go_wp2)
   go_meet
   case rel => exact ⟨_, (!t521), sq, H', ⟨b59_⟩, ⟨bel⟩⟩
  replace c5 := Bool.eq_false_iff.mpr c5; subst c5
  have H1 : (impl_Far.j0 k a0 a1 true) = some r := b10_
  replace H := H1; clear H1
  have H' := am H
  clear H
  go_wp2_with (go_at_call 18; (with_reducible refine (impl_WordOk.calls k a0 false _ A4.out).mono ?_); rintro e w' ⟨rfl, ⟨nd, rfl⟩⟩)
  repeat (go_quiet (fail); try go_wp2)
  go_meet
  case rel => exact ⟨_, (true), sq, H', ⟨b59_⟩, ⟨bel⟩⟩
 case rest =>
  clear HC3; obtain ⟨kq, x18_2, rfl, HA, HJ2, HB⟩ := hcut
  cases kq with
  | zero => exact absurd HA.out (by simp [impl_Far.j0])
  | succ kj2 =>
   have H := HA.out; clear HA; simp only [impl_Far.j0] at H
   by_cases c7 : x18_2 = true
   ·subst c7
    have H1 : (some (-1)) = some r := b26_
    replace H := H1; clear H1
    obtain rfl := Option.some.inj H; go_wp2
    repeat (go_quiet (fail); try go_wp2)
    go_ret
    exact ⟨eq_, bel⟩
   replace c7 := Bool.eq_false_iff.mpr c7; subst c7
   have H1 : (if 0 ≤ (wrap64 ((a0.size : Int) + 1)) then (if (wrap64 ((a0.size : Int) + 1) : Int).toNat ≤ 11728124029610 then ((some (List.replicate (wrap64 ((a0.size : Int) + 1) : Int).toNat [] : List (List Int))).bind fun y522 => (impl_Far.l0 kj2 a0 a1 y522 (y522.length : Int) 0)) else (none)) else (none)) = some r := b10_
   replace H := H1; clear H1
   obtain ⟨ji8, hji8⟩ : ∃ j_ : Int, (wrap64 ((a0.size : Int) + 1)) = j_ := ⟨_, rfl⟩
   replace H : (if 0 ≤ (ji8) then (if (ji8 : Int).toNat ≤ 11728124029610 then ((some (List.replicate (ji8 : Int).toNat [] : List (List Int))).bind fun y522 => (impl_Far.l0 kj2 a0 a1 y522 (y522.length : Int) 0)) else (none)) else (none)) = some r := b107_
   have hji8w : (IntKind.i64.wrap ((a0.size : Int) + 1)) = ji8 := (i64_w _).trans hji8
   replace H := ip H; obtain ⟨c9, H⟩ := H; have c9b0 := eq_true c9
   have c9b1 : decide (0 ≤ (ji8)) = true := decide_eq_true c9
   clear c9; replace H := ip H; obtain ⟨c10, H⟩ := H; have c10b0 := eq_true c10
   have c10b1 : decide ((ji8 : Int).toNat ≤ 11728124029610) = true := decide_eq_true c10
   clear c10; obtain ⟨y522, hy522⟩ : ∃ y_ : List (List Int), y_ = (List.replicate (ji8 : Int).toNat []) := ⟨_, rfl⟩
   replace H := bm H; rw [← hy522] at H
   have Ny522 := am hy522; clear hy522
   have H' := am H
   clear H
   go_wp2_with ((with_reducible refine gate_dst (N := 22) rfl ?_); refine Kd.S_make (Kd.slice 3 (Kd.int .i64)) _ 54 rfl (N := 22) rfl 53 _ _ rfl ji8 rfl rfl Tryz.underlying53 (.slice none 0 0) 24 info54 rfl (by decide) (by omega) [] (ok := fun _ => True) (okp := fun _ => True) ⟨_, rfl, Kd.R_nil _ _ _ _ _⟩ (fun _ hk => hk) trivial (of_decide_eq_true ad) (Nat.le_trans (Nat.mul_le_mul_right _ (of_decide_eq_true ad : ji8.toNat ≤ 11728124029610)) (by omega)) (Below.refl _ _) (Nat.le_refl _) ?_; intro v523 w11 ho12 hb hg_ hnew_; clear hg_ hnew_; (rw [← Ny522.out] at ho12); have HO524 := am (Kd.S_lower ho12 (below_size bel)); replace HB := am (below_step bel hb); clear hb ho12; obtain ⟨Ao13, co13, eo13⟩ := Kd.S_slice HO524.out; subst eo13)
   repeat (go_quiet (fail); try go_wp2)
   go_loopg [25] kj2 (fun kq v25 w' => ∃ (x5_2 : List (List Int)) (x25_2 : Int), v25 = .int .i64 x25_2 ∧ Aside0 (impl_Far.l0 kq a0 a1 x5_2 (y522.length : Int) x25_2 = some r) ∧ Aside0 (kq ≤ kj2) ∧ Aside0 (Kd.S (Kd.slice 3 (Kd.int .i64)) 54 w' w.heap.size (fun _ => True) (.slice Ao13 y522.length co13) x5_2) ∧ Aside0 (Below w.heap.size w w'))
   case atStart => exact ⟨(y522), (0), sq, H', ⟨Nat.le_refl _⟩, ⟨by (with_reducible repeat (fail)); exact HO524.out⟩, ⟨bel⟩⟩
   case round =>
    clear H'; clear c9b0 c9b1 c10b0 c10b1; obtain ⟨x5_2, x25_2, rfl, HA, HK2, HO_5, HB⟩ := hrel; have hl5_2 := (Kd.S_reads' HO_5.out).1; rw [hl5_2] at HO_5
    simp only [hl5_2]
    cases gk with
    | zero => exact absurd HA.out (by simp [impl_Far.l0])
    | succ k2 =>
     have H := HA.out; clear HA; simp only [impl_Far.l0] at H
     by_cases c14 : x25_2 < (y522.length : Int)
     ·rw [if_pos c14] at H; have c14b0 := decide_eq_true c14
      have c14b8 := c14b0
      simp only [hl5_2] at c14b8
      clear c14; obtain ⟨ji15, hji15⟩ : ∃ j_ : Int, (wrap64 ((a1.size : Int) + 1)) = j_ := ⟨_, rfl⟩
      rw [hji15] at H
      have hji15w : (IntKind.i64.wrap ((a1.size : Int) + 1)) = ji15 := (i64_w _).trans hji15
      replace H := ip H; obtain ⟨c16, H⟩ := H; have c16b0 := eq_true c16
      have c16b1 : decide (0 ≤ (ji15)) = true := decide_eq_true c16
      clear c16; replace H := ip H; obtain ⟨c17, H⟩ := H; have c17b0 := eq_true c17
      have c17b1 : decide ((ji15 : Int).toNat ≤ 35184372088832) = true := decide_eq_true c17
      clear c17; obtain ⟨y525, hy525⟩ : ∃ y_ : List Int, y_ = (List.replicate (ji15 : Int).toNat 0) := ⟨_, rfl⟩
      rw [← hy525] at H
      have Ny525 := am hy525; clear hy525; replace H := it H; obtain ⟨c18b0, H⟩ := H; replace H := ip H; obtain ⟨c19, H⟩ := H; have c19b0 := decide_eq_true c19
      have c19b8 := c19b0
      clear c19; obtain ⟨y528, hy528⟩ : ∃ y_ : List (List Int), y_ = (x5_2.set (x25_2 : Int).toNat y525) := ⟨_, rfl⟩
      replace H := bm H; rw [← hy528] at H
      have Ny528 := am hy528; clear hy528; replace H := ip H; obtain ⟨c21, H⟩ := H; have c21b0 := decide_eq_true c21
      have c21b8 := c21b0
      have c21b1 : decide (0 < (rd_L6 y528 x25_2).length) = true := decide_eq_true (by omega)
      clear c21; obtain ⟨y530, hy530⟩ : ∃ y_ : List Int, y_ = ((rd_L6 y528 x25_2).set (0 : Int).toNat x25_2) := ⟨_, rfl⟩
      rw [← hy530] at H
      have Ny530 := am hy530; clear hy530; obtain ⟨y532, hy532⟩ : ∃ y_ : List (List Int), y_ = (y528.set (x25_2 : Int).toNat y530) := ⟨_, rfl⟩
      rw [← hy532] at H
      have Ny532 := am hy532; clear hy532
      have H' := am H
      clear H
      go_wp2_with (first | ((with_reducible refine gate_dst (N := 33) rfl ?_); refine Kd.R_make (Kd.int .i64) _ 3 rfl (N := 33) rfl 54 _ _ rfl ji15 rfl rfl Tryz.underlying54 (.int .i64 0) 8 info3 rfl (by decide) (by omega) 0 (ok := fun _ => True) (okp := fun _ => True) rfl (fun _ hk => hk) trivial (of_decide_eq_true ad) (Nat.le_trans (Nat.mul_le_mul_right _ (of_decide_eq_true ad : ji15.toNat ≤ 35184372088832)) (by omega)) (Below.refl _ _) (Nat.le_refl _) ?_; intro v526 w23 ho24 hb hg_ hnew_; clear hg_ hnew_; (rw [← Ny525.out] at ho24); replace HO_5 := am (Kd.S_elder' b52_ (Kd.R_base ho24) hb); have HO527 := am (Kd.R_lower ho24 (below_size bel)); replace HB := am (below_step bel hb); clear hb ho24; have p20 : 0 ≤ (x25_2 : Int) := of_decide_eq_true ad; have q20 : (x25_2 : Int) < ((x5_2.length : Int) : Int) := of_decide_eq_true ad; obtain ⟨go20, co20, eo20, gb20, gl20, cl20, HG20⟩ := Kd.S_form HO_5.out (by omega); (cases eo20); have GB20 := Aside0.mk gb20; have GG20 := am HG20; clear gb20 gl20 HG20; obtain ⟨_, ce20, hcl20, hM20, hcc20, hfr20, _, _⟩ := Kd.S_elem HO_5.out [] (x25_2 : Int) p20 q20; obtain ⟨ve20_0, rfl, ge20_0⟩ := hM20; have hx20_0 := hcc20 0 _ rfl; have hf20_0 := hfr20 0; simp only [show ((Kd.slice 3 (Kd.int .i64))).sz = 1 from rfl, Nat.mul_one, Nat.add_zero] at hx20_0; simp only [show ((Kd.slice 3 (Kd.int .i64))).sz = 1 from rfl, Nat.mul_one, Nat.add_zero] at hf20_0; clear hcl20 hcc20 hfr20; replace p20 := eq_true p20; replace q20 := eq_true q20; have n_ := am (Kd.S_mono (ok' := (fun k_ => some k_ ≠ (v526 : Value).ownBlock)) HO_5.out (fun k_ hk => hk.2)); clear HO_5; have HO_5 := n_; clear n_; have HX25 := am (show Kd.S (Kd.slice 3 (Kd.int .i64)) 54 w23 w.heap.size (fun k_ => ((fun _ => True)) k_ ∧ ¬ ((fun k_ => some k_ = (v526 : Value).ownBlock)) k_) (.slice (some ⟨go20, 0, none⟩) x5_2.length co13) x5_2 from b43_); obtain ⟨oki25, ce25, hcl25, hM25, hcc25, hfr25, hoki25, hH25⟩ := Kd.S_elem HX25.out [] (x25_2 : Int) (of_decide_eq_true ad) b31_; obtain ⟨ve25_0, rfl, ge25_0⟩ := hM25; have HP25 := Kd.S_seg hH25 (of_decide_eq_true ad) b31_ (seg := [v526]) (j := 0) (show 1 ≤ 1 from by decide) (x' := y525) (Kd.M_row (Kd.R_mono (Kd.R_tight rfl (Kd.R_mono (ok' := fun k_ => ((fun _ => True)) k_ ∧ k_ ≠ go20) (Kd.R_apart' (HO527.out) (Kd.S_typed HO_5.out) (by decide)) (fun k_ hk => ⟨trivial, fun e_ => (hk.2) (by rw [e_]; rfl)⟩))) (fun _ h_ => Or.inr (h_)))) (fun _ hk => hk) (fun k_ hk_ => ((Kd.R_mono (ok' := fun k_ => ((fun _ => True)) k_ ∧ k_ ≠ go20) (Kd.R_apart' (HO527.out) (Kd.S_typed HO_5.out) (by decide)) (fun k_ hk => ⟨trivial, fun e_ => (hk.2) (by rw [e_]; rfl)⟩))).1 k_ hk_.symm); have hx25_0 := hcc25 0 _ rfl; simp only [show ((Kd.slice 3 (Kd.int .i64))).sz = 1 from rfl, Nat.mul_one, Nat.add_zero] at hx25_0; have hf25_0 := hfr25 0; simp only [show ((Kd.slice 3 (Kd.int .i64))).sz = 1 from rfl, Nat.mul_one, Nat.add_zero] at hf25_0; clear hcl25 hcc25 hfr25 hoki25 hH25; simp only [show ((Kd.slice 3 (Kd.int .i64))).sz = 1 from rfl, Nat.mul_one, Nat.add_zero] at HP25) | ((with_reducible refine gate_store (t := 54) (p := 34) rfl ?_); have hcs_ := (by obtain ⟨A_, c_, e_⟩ := Kd.R_slice HO527.out; rw [e_]; rfl : Value.cells v526 = #[v526]); unfold Value.cells at hcs_; have hst_ := (by obtain ⟨A_, c_, e_⟩ := Kd.R_slice HO527.out; intro a_ w_ m_; rw [e_]; exact run_store_slice _ _ _ _ _ _ _ : ∀ (a_ : Addr) (w_ : World) (m_ : Mode), (store a_ v526 m_).run Tryz.prog w_ = stored Tryz.prog w_ a_ v526 m_); refine store_event (t := 54) (p := 34) (v := ?vo_w26) (w1 := (w23.setCell ⟨go20, (x25_2 : Int).toNat, none⟩ (v526))) ?hg ?ho ?hn ?hr ?_; (case ho => rfl); (case hg => rfl); (case hn => rfl); (case hr => (go_simp; done)); intro w26 hw; have hg : w23.grownBy w26 (some go20) := (by rw [hw]; exact HP25.2); have hp_ : Kd.S (Kd.slice 3 (Kd.int .i64)) 54 w26 w.heap.size (fun _ => True) (.slice (some ⟨go20, 0, none⟩) x5_2.length co13) y528 := (by rw [hw, Ny528.out]; exact HP25.1); clear HP25; replace HO_5 := am (hp_); replace HB := am ((by rw [hw]; exact below_set (HB.out) GB20.out : Below w.heap.size w w26)); clear HO527; clear hg hw hp_; have p529 : 0 ≤ (x25_2 : Int) := of_decide_eq_true ad; have q529 : x25_2 < (y528.length : Int) := b79_; have ql529 : ((x25_2 : Int) < ((x5_2.length : Int) : Int)) = True := eq_true (of_decide_eq_true ad); obtain ⟨ad529, A529_0, c529_0, e529, hx529_0, hl529_0, hi529_0⟩ := at_L6 (Kd.S_reads' HO_5.out).2.2 x25_2 p529 q529; obtain rfl : (⟨go20, 0, none⟩ : Addr) = ad529 := (by injection e529); obtain ⟨ce529, hce529, hMe529, hcc529⟩ := Kd.S_get HO_5.out [] x25_2 p529 b102_; obtain ⟨ve529_0, rfl, ge529_0⟩ := hMe529; have hv529_0 := hcc529 0 _ rfl; rw [Nat.add_zero, show ((Kd.slice 3 (Kd.int .i64))).sz = 1 from rfl, Nat.mul_one] at hv529_0; replace hv529_0 := Option.some.inj (hv529_0.symm.trans hx529_0); rw [hv529_0] at ge529_0; have HL529_0 := am (show Kd.R (Kd.int .i64) 3 _ _ _ _ (rd_L6 y528 x25_2) from ge529_0); clear hv529_0 ge529_0; have HX529_0 := am hx529_0; clear hcc529 hce529; (simp only [add_plain] at hx529_0); have HR529_0 := am hi529_0; have HC529_0 := am hl529_0; clear hi529_0 hl529_0; replace p529 := eq_true p529; replace q529 := eq_true q529; have p22 : 0 ≤ (0 : Int) := (by omega); have q22 : (0 : Int) < (((rd_L6 y528 x25_2).length : Int) : Int) := of_decide_eq_true ad; have qi22 : (0 < (rd_L6 y528 x25_2).length) = True := eq_true (by omega); obtain ⟨go22, co22, eo22, gb22, gl22, cl22, HG22⟩ := Kd.R_form HL529_0.out (by omega); (cases eo22); have GB22 := Aside0.mk gb22; have GG22 := am HG22; clear gb22 gl22 HG22; obtain ⟨hx22_0, hf22_0⟩ := Kd.R_celln 0 HL529_0.out (0 : Int) p22 q22; rw [show ((0 : Int)).toNat = 0 from rfl] at hx22_0; rw [show ((0 : Int)).toNat = 0 from rfl] at hf22_0; replace p22 := eq_true p22; replace q22 := eq_true q22; have hq27 : (x25_2 : Int) < (y528.length : Int) := b53_; obtain ⟨oki27, ce27, hcl27, hM27, hcc27, hok27, hbk27⟩ := Kd.S_borrow HO_5.out [] (x25_2 : Int) (of_decide_eq_true ad) b103_; obtain ⟨ve27_0, rfl, ge27_0⟩ := hM27; have hv27 := hcc27 0 _ rfl; rw [Nat.add_zero, show ((Kd.slice 3 (Kd.int .i64))).sz = 1 from rfl, Nat.mul_one] at hv27; replace hv27 := Option.some.inj (hv27.symm.trans HX529_0.out); subst hv27; clear hcc27 hcl27; replace ge27_0 := (show Kd.R (Kd.int .i64) 3 _ _ _ _ (rd_L6 y528 x25_2) from ge27_0); have HP27 := Kd.R_putg ge27_0 (0 : Int) x25_2) | ((with_reducible refine gate_store (t := 3) (p := 40) rfl ?_); refine store_event (t := 3) (p := 40) (v := ?vo_w28) (w1 := (w26.setCell ⟨go22, 0, none⟩ (.int .i64 x25_2))) ?hg ?ho ?hn ?hr ?_; (case ho => rfl); (case hg => rfl); (case hn => rfl); (case hr => (go_simp; done)); intro w28 hw; have hg : w26.grownBy w28 (some go22) := (by rw [hw]; exact HP27.2); have hz_ : Kd.R (Kd.int .i64) 3 w28 w.heap.size oki27 (.slice (some ⟨go22, 0, none⟩) (rd_L6 y528 x25_2).length c529_0) y530 := (by rw [hw, Ny530.out]; exact HP27.1); have hp_ : Kd.S (Kd.slice 3 (Kd.int .i64)) 54 w28 w.heap.size (fun _ => True) (.slice (some ⟨go20, 0, none⟩) x5_2.length co13) y532 := b92_; have hm_ := Kd.R_mono hz_ hok27; clear HP27 hbk27; replace HO_5 := am (hp_); replace HB := am ((by rw [hw]; exact below_set (HB.out) GB22.out : Below w.heap.size w w28)); have HL556 := am (hm_); have HC531 := am ((Kd.R_reads' hm_).2.1); clear HL529_0; clear hg hw hp_ hz_ hm_ hok27))
      repeat (go_quiet (fail); try go_wp2)
      simp only [← hl5_2]
      go_roundg k2
      case measure => have := HJ2.out; have := HK2.out; omega
      case rel => exact ⟨(y532), (wrap64 (x25_2 + 1)), sq, H', ⟨by have := HJ2.out; have := HK2.out; omega⟩, ⟨b104_⟩, ⟨bel⟩⟩
     rw [if_neg c14] at H; have c14b0 := decide_eq_false c14
     have c14b8 := c14b0
     simp only [hl5_2] at c14b8
     clear c14; replace H := ip H; obtain ⟨c29, H⟩ := H; have c29b0 := decide_eq_true c29
     have c29b8 := c29b0
     have c29b1 : decide (0 < x5_2.length) = true := decide_eq_true (by omega)
     clear c29
     have H' := am H
     clear H
     have p533 : 0 ≤ (0 : Int) := (by omega)
     have q533 : 0 < (x5_2.length : Int) := of_decide_eq_true ad
     obtain ⟨ad533, A533_0, c533_0, e533, hx533_0, hl533_0, hi533_0⟩ := at_L6 (Kd.S_reads' HO_5.out).2.2 0 p533 q533; cases e533
     obtain ⟨ce533, hce533, hMe533, hcc533⟩ := Kd.S_get HO_5.out [] 0 p533 (by exact q533)
     obtain ⟨ve533_0, rfl, ge533_0⟩ := hMe533; have hv533_0 := hcc533 0 _ rfl; rw [Nat.add_zero, show ((Kd.slice 3 (Kd.int .i64))).sz = 1 from rfl, Nat.mul_one] at hv533_0; replace hv533_0 := Option.some.inj (hv533_0.symm.trans hx533_0); rw [hv533_0] at ge533_0; have HL533_0 := am (show Kd.R (Kd.int .i64) 3 _ _ _ _ (rd_L6 x5_2 0) from ge533_0); clear hv533_0 ge533_0; have HX533_0 := am hx533_0; clear hcc533 hce533
     have qi533 : (0 < x5_2.length) = True := eq_true (by omega)
     rw [show ((0 : Int)).toNat = 0 from rfl] at hx533_0
     rw [Addr.add_zero'] at hx533_0
     have HR533_0 := am hi533_0; have HC533_0 := am hl533_0; clear hi533_0 hl533_0; replace p533 := eq_true p533; replace q533 := eq_true q533; go_wp2
     repeat (go_quiet (fail); try go_wp2)
     go_loopg [46] k2 (fun kq v46 w' => ∃ (x5_3 : List (List Int)) (x46_3 : Int), v46 = .int .i64 x46_3 ∧ Aside0 (impl_Far.l1 kq a0 a1 x5_3 ((rd_L6 x5_2 0).length : Int) x46_3 = some r) ∧ Aside0 (kq ≤ k2) ∧ Aside0 (Kd.S (Kd.slice 3 (Kd.int .i64)) 54 w' w.heap.size (fun _ => True) (.slice (some ad533) x5_2.length co13) x5_3) ∧ Aside0 (Below w.heap.size w w'))
     case atStart => exact ⟨(x5_2), (0), sq, H', ⟨Nat.le_refl _⟩, ⟨b104_⟩, ⟨bel⟩⟩
     case round =>
      clear H'; clear c14b0 c29b0 c29b1 hx533_0 p533 q533; obtain ⟨x5_3, x46_3, rfl, HA, HK3, HO_5, HB⟩ := hrel; have hl5_3 := (Kd.S_reads' HO_5.out).1; rw [hl5_3] at HO_5
      simp only [hl5_3]
      cases gk with
      | zero => exact absurd HA.out (by simp [impl_Far.l1])
      | succ k3 =>
       have H := HA.out; clear HA; simp only [impl_Far.l1] at H
       by_cases c30 : x46_3 < ((rd_L6 x5_2 0).length : Int)
       ·rw [if_pos c30] at H; have c30b0 := decide_eq_true c30
        have c30b8 := c30b0
        clear c30; replace H := ip H; obtain ⟨c31, H⟩ := H; have c31b0 := decide_eq_true c31
        have c31b8 := c31b0
        have c31b1 : decide (0 < x5_3.length) = true := decide_eq_true (by omega)
        clear c31; replace H := it H; obtain ⟨c32b0, H⟩ := H; replace H := ip H; obtain ⟨c33, H⟩ := H; have c33b0 := decide_eq_true c33
        have c33b8 := c33b0
        clear c33; obtain ⟨y535, hy535⟩ : ∃ y_ : List Int, y_ = ((rd_L6 x5_3 0).set (x46_3 : Int).toNat x46_3) := ⟨_, rfl⟩
        rw [← hy535] at H
        have Ny535 := am hy535; clear hy535; obtain ⟨y537, hy537⟩ : ∃ y_ : List (List Int), y_ = (x5_3.set (0 : Int).toNat y535) := ⟨_, rfl⟩
        rw [← hy537] at H
        have Ny537 := am hy537; clear hy537
        have H' := am H
        clear H
        have p534 : 0 ≤ (0 : Int) := (by omega)
        have q534 : 0 < (x5_3.length : Int) := of_decide_eq_true ad
        obtain ⟨ad534, A534_0, c534_0, e534, hx534_0, hl534_0, hi534_0⟩ := at_L6 (Kd.S_reads' HO_5.out).2.2 0 p534 q534
        obtain rfl : ad533 = ad534 := (by injection e534)
        obtain ⟨ce534, hce534, hMe534, hcc534⟩ := Kd.S_get HO_5.out [] 0 p534 (by exact q534)
        obtain ⟨ve534_0, rfl, ge534_0⟩ := hMe534; have hv534_0 := hcc534 0 _ rfl; rw [Nat.add_zero, show ((Kd.slice 3 (Kd.int .i64))).sz = 1 from rfl, Nat.mul_one] at hv534_0; replace hv534_0 := Option.some.inj (hv534_0.symm.trans hx534_0); rw [hv534_0] at ge534_0; have HL534_0 := am (show Kd.R (Kd.int .i64) 3 _ _ _ _ (rd_L6 x5_3 0) from ge534_0); clear hv534_0 ge534_0; have HX534_0 := am hx534_0; clear hcc534 hce534
        have qi534 : (0 < x5_3.length) = True := eq_true (by omega)
        rw [show ((0 : Int)).toNat = 0 from rfl] at hx534_0
        rw [Addr.add_zero'] at hx534_0
        have HR534_0 := am hi534_0; have HC534_0 := am hl534_0; clear hi534_0 hl534_0; replace p534 := eq_true p534; replace q534 := eq_true q534
        have p34 : 0 ≤ (x46_3 : Int) := of_decide_eq_true ad
        have q34 : (x46_3 : Int) < (((rd_L6 x5_3 0).length : Int) : Int) := of_decide_eq_true ad
        obtain ⟨go34, co34, eo34, gb34, gl34, cl34, HG34⟩ := Kd.R_form HL534_0.out (by omega)
        (cases eo34)
        have GB34 := Aside0.mk gb34; have GG34 := am HG34; clear gb34 gl34 HG34; obtain ⟨hx34_0, hf34_0⟩ := Kd.R_celln 0 HL534_0.out (x46_3 : Int) p34 q34; replace p34 := eq_true p34; replace q34 := eq_true q34
        have hq35 : (0 : Int) < (x5_3.length : Int) := b67_
        obtain ⟨oki35, ce35, hcl35, hM35, hcc35, hok35, hbk35⟩ := Kd.S_borrow HO_5.out [] (0 : Int) (by omega) hq35
        obtain ⟨ve35_0, rfl, ge35_0⟩ := hM35; have hv35 := hcc35 0 _ rfl; rw [Nat.add_zero, show ((Kd.slice 3 (Kd.int .i64))).sz = 1 from rfl, Nat.mul_one] at hv35; replace hv35 := Option.some.inj (hv35.symm.trans HX534_0.out); subst hv35; clear hcc35 hcl35; replace ge35_0 := (show Kd.R (Kd.int .i64) 3 _ _ _ _ (rd_L6 x5_3 0) from ge35_0); have HP35 := Kd.R_putg ge35_0 (x46_3 : Int) x46_3
        go_wp2_with ((with_reducible refine gate_store (t := 3) (p := 54) rfl ?_); refine store_event (t := 3) (p := 54) (v := ?vo_w36) (w1 := (wr.setCell ⟨go34, (x46_3 : Int).toNat, none⟩ (.int .i64 x46_3))) ?hg ?ho ?hn ?hr ?_; (case ho => rfl); (case hg => rfl); (case hn => rfl); (case hr => (go_simp; done)); intro w36 hw; have hg : wr.grownBy w36 (some go34) := (by rw [hw]; exact HP35.2); have hz_ : Kd.R (Kd.int .i64) 3 w36 w.heap.size oki35 (.slice (some ⟨go34, 0, none⟩) (rd_L6 x5_3 0).length c534_0) y535 := (by rw [hw, Ny535.out]; exact HP35.1); have hp_ : Kd.S (Kd.slice 3 (Kd.int .i64)) 54 w36 w.heap.size (fun _ => True) (.slice (some ad533) x5_3.length co13) y537 := b93_; have hm_ := Kd.R_mono hz_ hok35; clear HP35 hbk35; replace HO_5 := am (hp_); replace HB := am ((by rw [hw]; exact below_set (HB.out) GB34.out : Below w.heap.size w w36)); have HL557 := am (hm_); have HC536 := am ((Kd.R_reads' hm_).2.1); clear HL534_0; clear hg hw hp_ hz_ hm_ hok35)
        repeat (go_quiet (fail); try go_wp2)
        simp only [← hl5_3]
        go_roundg k3
        case measure => have := HJ2.out; have := HK2.out; have := HK3.out; omega
        case rel => exact ⟨(y537), (wrap64 (x46_3 + 1)), sq, H', ⟨by have := HJ2.out; have := HK2.out; have := HK3.out; omega⟩, ⟨b101_⟩, ⟨bel⟩⟩
       rw [if_neg c30] at H; have c30b0 := decide_eq_false c30
       have c30b8 := c30b0
       clear c30
       have H' := am H
       clear H; go_wp2
       repeat (go_quiet (fail); try go_wp2)
       go_loopg [8] k3 (fun kq v8 w' => ∃ (x5_4 : List (List Int)) (x8_4 : Int), v8 = .int .i64 x8_4 ∧ Aside0 (impl_Far.l2 kq a0 a1 x5_4 x8_4 = some r) ∧ Aside0 (kq ≤ k3) ∧ Aside0 (Kd.S (Kd.slice 3 (Kd.int .i64)) 54 w' w.heap.size (fun _ => True) (.slice (some ad533) x5_3.length co13) x5_4) ∧ Aside0 (Below w.heap.size w w'))
       case atStart => exact ⟨(x5_3), (1), sq, H', ⟨Nat.le_refl _⟩, ⟨b101_⟩, ⟨bel⟩⟩
       case round =>
        clear H'; clear c30b0; obtain ⟨x5_4, x8_4, rfl, HA, HK4, HO_5, HB⟩ := hrel; have hl5_4 := (Kd.S_reads' HO_5.out).1; rw [hl5_4] at HO_5
        simp only [hl5_4]
        cases gk with
        | zero => exact absurd HA.out (by simp [impl_Far.l2])
        | succ k4 =>
         have H := HA.out; clear HA; simp only [impl_Far.l2] at H
         by_cases c37 : x8_4 ≤ (a0.size : Int)
         ·rw [if_pos c37] at H; have c37b0 := decide_eq_true c37; clear c37
          have H' := am H
          clear H; go_wp2
          repeat (go_quiet (fail); try go_wp2)
          go_loopg [9] k4 (fun kq v9 w' => ∃ (x5_5 : List (List Int)) (x9_5 : Int), v9 = .int .i64 x9_5 ∧ Aside0 (impl_Far.l3 kq a0 a1 x5_5 x8_4 x9_5 = some r) ∧ Aside0 (kq ≤ k4) ∧ Aside0 (Kd.S (Kd.slice 3 (Kd.int .i64)) 54 w' w.heap.size (fun _ => True) (.slice (some ad533) x5_4.length co13) x5_5) ∧ Aside0 (Below w.heap.size w w'))
          case atStart => exact ⟨(x5_4), (1), sq, H', ⟨Nat.le_refl _⟩, ⟨by (with_reducible repeat (fail)); exact HO_5.out⟩, ⟨bel⟩⟩
          case round =>
           clear H'; clear c37b0; obtain ⟨x5_5, x9_5, rfl, HA, HK5, HO_5, HB⟩ := hrel; have hl5_5 := (Kd.S_reads' HO_5.out).1; rw [hl5_5] at HO_5
           simp only [hl5_5]
           cases gk with
           | zero => exact absurd HA.out (by simp [impl_Far.l3])
           | succ k5 =>
            have H := HA.out; clear HA; simp only [impl_Far.l3] at H
            by_cases c38 : x9_5 ≤ (a1.size : Int)
            ·rw [if_pos c38] at H; have c38b0 := decide_eq_true c38; clear c38; obtain ⟨ji39, hji39⟩ : ∃ j_ : Int, (wrap64 (x8_4 - 1)) = j_ := ⟨_, rfl⟩
             rw [hji39] at H
             have hji39w : (IntKind.i64.wrap (x8_4 - 1)) = ji39 := (i64_w _).trans hji39
             replace H := it H; obtain ⟨c40b0, H⟩ := H; replace H := ip H; obtain ⟨c41, H⟩ := H; have c41b0 := decide_eq_true c41
             have c41b8 := c41b0
             clear c41; obtain ⟨ji42, hji42⟩ : ∃ j_ : Int, (wrap64 (x9_5 - 1)) = j_ := ⟨_, rfl⟩
             rw [hji42] at H
             have hji42w : (IntKind.i64.wrap (x9_5 - 1)) = ji42 := (i64_w _).trans hji42
             replace H := it H; obtain ⟨c43b0, H⟩ := H; replace H := ip H; obtain ⟨c44, H⟩ := H; have c44b0 := decide_eq_true c44
             have c44b8 := c44b0
             clear c44; replace H := it H; obtain ⟨c45b0, H⟩ := H; replace H := it H; obtain ⟨c47b0, H⟩ := H; have HC49 := am H; clear H
             have p540 : 0 ≤ ((ji39) : Int) := of_decide_eq_true ad
             have q540 : (ji39) < (x5_5.length : Int) := of_decide_eq_true ad
             obtain ⟨ad540, A540_0, c540_0, e540, hx540_0, hl540_0, hi540_0⟩ := at_L6 (Kd.S_reads' HO_5.out).2.2 (ji39) p540 q540
             obtain rfl : ad533 = ad540 := (by injection e540)
             obtain ⟨ce540, hce540, hMe540, hcc540⟩ := Kd.S_get HO_5.out [] (ji39) p540 (by exact q540)
             obtain ⟨ve540_0, rfl, ge540_0⟩ := hMe540; have hv540_0 := hcc540 0 _ rfl; rw [Nat.add_zero, show ((Kd.slice 3 (Kd.int .i64))).sz = 1 from rfl, Nat.mul_one] at hv540_0; replace hv540_0 := Option.some.inj (hv540_0.symm.trans hx540_0); rw [hv540_0] at ge540_0; have HL540_0 := am (show Kd.R (Kd.int .i64) 3 _ _ _ _ (rd_L6 x5_5 (ji39)) from ge540_0); clear hv540_0 ge540_0; have HX540_0 := am hx540_0; clear hcc540 hce540; have HR540_0 := am hi540_0; have HC540_0 := am hl540_0; clear hi540_0 hl540_0; replace p540 := eq_true p540; replace q540 := eq_true q540
             have p541 : 0 ≤ ((ji42) : Int) := of_decide_eq_true ad
             have q541 : (ji42) < ((rd_L6 x5_5 (ji39)).length : Int) := of_decide_eq_true ad
             obtain ⟨ad541, e541, hx541_0⟩ := Kd.at_int b44_ (ji42) p541 q541; cases e541; replace p541 := eq_true p541; replace q541 := eq_true q541
             have p46 : 0 ≤ ((ji39) : Int) := of_decide_eq_true ad
             have q46 : (ji39) < (a0.size : Int) := of_decide_eq_true ad
             have hx46 := bt_at a0 (ji39); replace p46 := eq_true p46; replace q46 := eq_true q46
             have p48 : 0 ≤ ((ji42) : Int) := of_decide_eq_true ad
             have q48 : (ji42) < (a1.size : Int) := of_decide_eq_true ad
             have hx48 := bt_at a1 (ji42); replace p48 := eq_true p48; replace q48 := eq_true q48
             go_upto_if 85 with (fail)
             repeat (go_quiet (fail); go_upto_if 85 with (fail))
             go_cut [10] (fun v10 wc => ∃ (kq : Nat) (x10_48 : Int), v10 = .int .i64 x10_48 ∧ Aside0 (impl_Far.j5 kq a0 a1 x5_5 x8_4 x9_5 x10_48 = some r) ∧ Aside0 (kq ≤ k5) ∧ Aside0 (Kd.S (Kd.slice 3 (Kd.int .i64)) 54 wc w.heap.size (fun _ => True) (.slice (some ad533) x5_5.length co13) x5_5) ∧ Aside0 (Kd.C (Kd.int .i64) wc (some ad541) (rd_L6 x5_5 (ji39)).length (rd_L6 x5_5 (ji39))) ∧ Aside0 (Below w.heap.size w wc))
             case first =>
              have H := HC49.out; clear HC49
              by_cases c50 : (bt a0 (ji39)) = (bt a1 (ji42))
              ·rw [if_pos c50] at H
               have c50b0 : ((bt a0 (ji39)) == (bt a1 (ji42))) = true := beq_iff_eq.mpr c50
               have c50b1 : ((bt a0 (ji39)) != (bt a1 (ji42))) = false := bne_eq_false_iff_eq.mpr c50
               clear c50
               (skip)
               have H' := am H
               clear H; go_wp2
               repeat (go_quiet (fail); try go_wp2)
               go_meet
               case rel => exact ⟨_, (rd (rd_L6 x5_5 (ji39)) (ji42)), (by rfl), H', ⟨by have := HJ2.out; have := HK2.out; have := HK3.out; have := HK4.out; have := HK5.out; omega⟩, ⟨b34_⟩, ⟨b44_⟩, ⟨bel⟩⟩
              rw [if_neg c50] at H
              have c50b0 : ((bt a0 (ji39)) == (bt a1 (ji42))) = false := beq_eq_false_iff_ne.mpr c50
              have c50b1 : ((bt a0 (ji39)) != (bt a1 (ji42))) = true := bne_iff_ne.mpr c50
              (skip)
              have H' := am H
              clear H; go_wp2
              repeat (go_quiet (fail); try go_wp2)
              go_meet
              case rel => exact ⟨_, (wrap64 ((rd (rd_L6 x5_5 (ji39)) (ji42)) + 1)), (by rfl), H', ⟨by have := HJ2.out; have := HK2.out; have := HK3.out; have := HK4.out; have := HK5.out; omega⟩, ⟨b34_⟩, ⟨b44_⟩, ⟨bel⟩⟩
             case rest =>
              clear HC49; clear c38b0 c40b0 c41b0 c43b0 c44b0 c45b0 p46 q46 hx46 c47b0 p48 q48 hx48 hx540_0 hx541_0 p540 p541 q540 q541; obtain ⟨kq, x10_48, rfl, HA, HJ48, HO_5, HR540_0, HB⟩ := hcut
              cases kq with
              | zero => exact absurd HA.out (by simp [impl_Far.j5])
              | succ kj48 =>
               have H := HA.out; clear HA; simp only [impl_Far.j5] at H
               obtain ⟨ji51, hji51⟩ : ∃ j_ : Int, (wrap64 (x8_4 - 1)) = j_ := ⟨_, rfl⟩
               rw [hji51] at H
               have hji51w : (IntKind.i64.wrap (x8_4 - 1)) = ji51 := (i64_w _).trans hji51
               clear hji39w; replace H := it H; obtain ⟨c52b0, H⟩ := H; replace H := ip H; obtain ⟨c53, H⟩ := H; have c53b0 := decide_eq_true c53
               have c53b8 := c53b0
               clear c53; replace H := it H; obtain ⟨c54b0, H⟩ := H; replace H := ip H; obtain ⟨c55, H⟩ := H; have c55b0 := decide_eq_true c55
               have c55b8 := c55b0
               clear c55; replace H := it H; obtain ⟨c56b0, H⟩ := H; replace H := ip H; obtain ⟨c57, H⟩ := H; have c57b0 := decide_eq_true c57
               have c57b8 := c57b0
               clear c57; obtain ⟨ji58, hji58⟩ : ∃ j_ : Int, (wrap64 (x9_5 - 1)) = j_ := ⟨_, rfl⟩
               rw [hji58] at H
               have hji58w : (IntKind.i64.wrap (x9_5 - 1)) = ji58 := (i64_w _).trans hji58
               clear hji42w; replace H := it H; obtain ⟨c59b0, H⟩ := H; replace H := ip H; obtain ⟨c60, H⟩ := H; have c60b0 := decide_eq_true c60
               have c60b8 := c60b0
               clear c60; obtain ⟨ji61, hji61⟩ : ∃ j_ : Int, (mn x10_48 (wrap64 ((rd (rd_L6 x5_5 (ji51)) x9_5) + 1))) = j_ := ⟨_, rfl⟩
               rw [hji61] at H
               have hji61_ : (if (wrap64 ((rd (rd_L6 x5_5 (ji51)) x9_5) + 1)) < x10_48 then (wrap64 ((rd (rd_L6 x5_5 (ji51)) x9_5) + 1)) else x10_48) = ji61 := hji61
               obtain ⟨ji62, hji62⟩ : ∃ j_ : Int, (mn (ji61) (wrap64 ((rd (rd_L6 x5_5 x8_4) (ji58)) + 1))) = j_ := ⟨_, rfl⟩
               rw [hji62] at H
               have hji62_ : (if (wrap64 ((rd (rd_L6 x5_5 x8_4) (ji58)) + 1)) < (ji61) then (wrap64 ((rd (rd_L6 x5_5 x8_4) (ji58)) + 1)) else (ji61)) = ji62 := hji62
               have HC63 := am H; clear H
               have p542 : 0 ≤ ((ji51) : Int) := of_decide_eq_true ad
               have q542 : (ji51) < (x5_5.length : Int) := of_decide_eq_true ad
               obtain ⟨ad542, A542_0, c542_0, e542, hx542_0, hl542_0, hi542_0⟩ := at_L6 (Kd.S_reads' HO_5.out).2.2 (ji51) p542 q542
               obtain rfl : ad533 = ad542 := (by injection e542)
               obtain ⟨ce542, hce542, hMe542, hcc542⟩ := Kd.S_get HO_5.out [] (ji51) p542 (by exact q542)
               obtain ⟨ve542_0, rfl, ge542_0⟩ := hMe542; have hv542_0 := hcc542 0 _ rfl; rw [Nat.add_zero, show ((Kd.slice 3 (Kd.int .i64))).sz = 1 from rfl, Nat.mul_one] at hv542_0; replace hv542_0 := Option.some.inj (hv542_0.symm.trans hx542_0); rw [hv542_0] at ge542_0; have HL542_0 := am (show Kd.R (Kd.int .i64) 3 _ _ _ _ (rd_L6 x5_5 (ji51)) from ge542_0); clear hv542_0 ge542_0; have HX542_0 := am hx542_0; clear hcc542 hce542; have HR542_0 := am hi542_0; have HC542_0 := am hl542_0; clear hi542_0 hl542_0; replace p542 := eq_true p542; replace q542 := eq_true q542
               have p543 : 0 ≤ (x9_5 : Int) := of_decide_eq_true ad
               have q543 : x9_5 < ((rd_L6 x5_5 (ji51)).length : Int) := of_decide_eq_true ad
               obtain ⟨ad543, e543, hx543_0⟩ := Kd.at_int b60_ x9_5 p543 q543; cases e543; replace p543 := eq_true p543; replace q543 := eq_true q543
               have p544 : 0 ≤ (x8_4 : Int) := of_decide_eq_true ad
               have q544 : x8_4 < (x5_5.length : Int) := of_decide_eq_true ad
               obtain ⟨ad544, A544_0, c544_0, e544, hx544_0, hl544_0, hi544_0⟩ := at_L6 (Kd.S_reads' HO_5.out).2.2 x8_4 p544 q544
               obtain rfl : ad533 = ad544 := (by injection e544)
               obtain ⟨ce544, hce544, hMe544, hcc544⟩ := Kd.S_get HO_5.out [] x8_4 p544 (by exact q544)
               obtain ⟨ve544_0, rfl, ge544_0⟩ := hMe544; have hv544_0 := hcc544 0 _ rfl; rw [Nat.add_zero, show ((Kd.slice 3 (Kd.int .i64))).sz = 1 from rfl, Nat.mul_one] at hv544_0; replace hv544_0 := Option.some.inj (hv544_0.symm.trans hx544_0); rw [hv544_0] at ge544_0; have HL544_0 := am (show Kd.R (Kd.int .i64) 3 _ _ _ _ (rd_L6 x5_5 x8_4) from ge544_0); clear hv544_0 ge544_0; have HX544_0 := am hx544_0; clear hcc544 hce544; have HR544_0 := am hi544_0; have HC544_0 := am hl544_0; clear hi544_0 hl544_0; replace p544 := eq_true p544; replace q544 := eq_true q544
               have p545 : 0 ≤ ((ji58) : Int) := of_decide_eq_true ad
               have q545 : (ji58) < ((rd_L6 x5_5 x8_4).length : Int) := of_decide_eq_true ad
               obtain ⟨ad545, e545, hx545_0⟩ := Kd.at_int b61_ (ji58) p545 q545; cases e545; replace p545 := eq_true p545; replace q545 := eq_true q545
               go_upto_region 25 with (fail)
               repeat (go_quiet (fail); go_upto_region 25 with (fail))
               go_cut [135] (fun v135 wc => ∃ (kq : Nat) (x135_62 : Bool), v135 = .bool x135_62 ∧ Aside0 (impl_Far.j6 kq a0 a1 x5_5 x8_4 x9_5 ji62 x135_62 = some r) ∧ Aside0 (kq ≤ kj48) ∧ Aside0 (Kd.S (Kd.slice 3 (Kd.int .i64)) 54 wc w.heap.size (fun _ => True) (.slice (some ad533) x5_5.length co13) x5_5) ∧ Aside0 (Kd.C (Kd.int .i64) wc (some ad541) (rd_L6 x5_5 (ji39)).length (rd_L6 x5_5 (ji39))) ∧ Aside0 (Kd.C (Kd.int .i64) wc (some ad543) (rd_L6 x5_5 (ji51)).length (rd_L6 x5_5 (ji51))) ∧ Aside0 (Kd.C (Kd.int .i64) wc (some ad545) (rd_L6 x5_5 x8_4).length (rd_L6 x5_5 x8_4)) ∧ Aside0 (Below w.heap.size w wc))
               case first =>
                have H := HC63.out; clear HC63
                by_cases c64 : x8_4 > 1
                ·rw [if_pos c64] at H; have c64b0 := decide_eq_true c64; clear c64
                 (skip)
                 by_cases c65 : x9_5 > 1
                 ·rw [if_pos c65] at H; have c65b0 := decide_eq_true c65; clear c65
                  replace H := it H; obtain ⟨c66b0, H⟩ := H; obtain ⟨ji68, hji68⟩ : ∃ j_ : Int, (wrap64 (x9_5 - 2)) = j_ := ⟨_, rfl⟩
                  rw [hji68] at H
                  have hji68w : (IntKind.i64.wrap (x9_5 - 2)) = ji68 := (i64_w _).trans hji68
                  replace H := it H; obtain ⟨c69b0, H⟩ := H; replace H := it H; obtain ⟨c70b0, H⟩ := H
                  by_cases c72 : (bt a0 (ji51)) = (bt a1 (ji68))
                  ·rw [if_pos c72] at H
                   have c72b0 : ((bt a0 (ji51)) == (bt a1 (ji68))) = true := beq_iff_eq.mpr c72
                   have c72b1 : ((bt a0 (ji51)) != (bt a1 (ji68))) = false := bne_eq_false_iff_eq.mpr c72
                   clear c72; obtain ⟨ji73, hji73⟩ : ∃ j_ : Int, (wrap64 (x8_4 - 2)) = j_ := ⟨_, rfl⟩
                   rw [hji73] at H
                   have hji73w : (IntKind.i64.wrap (x8_4 - 2)) = ji73 := (i64_w _).trans hji73
                   replace H := it H; obtain ⟨c74b0, H⟩ := H; replace H := it H; obtain ⟨c75b0, H⟩ := H; replace H := it H; obtain ⟨c77b0, H⟩ := H
                   have H' := am H
                   clear H
                   have p67 : 0 ≤ ((ji51) : Int) := of_decide_eq_true ad
                   have q67 : (ji51) < (a0.size : Int) := of_decide_eq_true ad
                   have hx67 := bt_at a0 (ji51); replace p67 := eq_true p67; replace q67 := eq_true q67
                   have p71 : 0 ≤ ((ji68) : Int) := of_decide_eq_true ad
                   have q71 : (ji68) < (a1.size : Int) := of_decide_eq_true ad
                   have hx71 := bt_at a1 (ji68); replace p71 := eq_true p71; replace q71 := eq_true q71
                   have p76 : 0 ≤ ((ji73) : Int) := of_decide_eq_true ad
                   have q76 : (ji73) < (a0.size : Int) := of_decide_eq_true ad
                   have hx76 := bt_at a0 (ji73); replace p76 := eq_true p76; replace q76 := eq_true q76
                   have p78 : 0 ≤ ((ji58) : Int) := of_decide_eq_true ad
                   have q78 : (ji58) < (a1.size : Int) := of_decide_eq_true ad
                   have hx78 := bt_at a1 (ji58); replace p78 := eq_true p78; replace q78 := eq_true q78; go_wp2
                   repeat (go_quiet (fail); try go_wp2)
                   go_meet
                   case rel => exact ⟨_, (((bt a0 (ji73)) == (bt a1 (ji58)))), (by rfl), H', ⟨b77_⟩, ⟨b34_⟩, ⟨b44_⟩, ⟨b60_⟩, ⟨b61_⟩, ⟨bel⟩⟩
                  rw [if_neg c72] at H
                  have c72b0 : ((bt a0 (ji51)) == (bt a1 (ji68))) = false := beq_eq_false_iff_ne.mpr c72
                  have c72b1 : ((bt a0 (ji51)) != (bt a1 (ji68))) = true := bne_iff_ne.mpr c72
                  have H' := am H
                  clear H
                  have p67 : 0 ≤ ((ji51) : Int) := of_decide_eq_true ad
                  have q67 : (ji51) < (a0.size : Int) := of_decide_eq_true ad
                  have hx67 := bt_at a0 (ji51); replace p67 := eq_true p67; replace q67 := eq_true q67
                  have p71 : 0 ≤ ((ji68) : Int) := of_decide_eq_true ad
                  have q71 : (ji68) < (a1.size : Int) := of_decide_eq_true ad
                  have hx71 := bt_at a1 (ji68); replace p71 := eq_true p71; replace q71 := eq_true q71; go_wp2
                  repeat (go_quiet (fail); try go_wp2)
                  go_meet
                  case rel => exact ⟨_, (false), sq, H', ⟨b77_⟩, ⟨b34_⟩, ⟨b44_⟩, ⟨b60_⟩, ⟨b61_⟩, ⟨bel⟩⟩
                 rw [if_neg c65] at H; have c65b0 := decide_eq_false c65; clear c65
                 have H' := am H
                 clear H; go_wp2
                 repeat (go_quiet (fail); try go_wp2)
                 go_meet
                 case rel => exact ⟨_, (false), sq, H', ⟨b77_⟩, ⟨b34_⟩, ⟨b44_⟩, ⟨b60_⟩, ⟨b61_⟩, ⟨bel⟩⟩
                rw [if_neg c64] at H; have c64b0 := decide_eq_false c64; clear c64
                (skip)
                have H' := am H
                clear H; go_wp2
                repeat (go_quiet (fail); try go_wp2)
                go_meet
                case rel => exact ⟨_, (false), sq, H', ⟨b77_⟩, ⟨b34_⟩, ⟨b44_⟩, ⟨b60_⟩, ⟨b61_⟩, ⟨bel⟩⟩
               case rest =>
                clear HC63; clear c52b0 c53b0 c54b0 c55b0 c56b0 c57b0 c59b0 c60b0 hx542_0 hx543_0 hx544_0 hx545_0 p542 p543 p544 p545 q542 q543 q544 q545; obtain ⟨kq, x135_62, rfl, HA, HJ62, HO_5, HR540_0, HR542_0, HR544_0, HB⟩ := hcut
                cases kq with
                | zero => exact absurd HA.out (by simp [impl_Far.j6])
                | succ kj62 =>
                 have H := HA.out; clear HA; simp only [impl_Far.j6] at H
                 by_cases c79 : x135_62 = true
                 ·subst c79
                  have H1 : (if 0 ≤ (wrap64 (x8_4 - 2)) then (if (wrap64 (x8_4 - 2)) < (x5_5.length : Int) then (if 0 ≤ (wrap64 (x9_5 - 2)) then (if (wrap64 (x9_5 - 2)) < ((rd_L6 x5_5 (wrap64 (x8_4 - 2))).length : Int) then (if 0 ≤ x8_4 then (if x8_4 < (x5_5.length : Int) then (if 0 ≤ x9_5 then (if x9_5 < ((rd_L6 x5_5 x8_4).length : Int) then (impl_Far.l3 kj62 a0 a1 (x5_5.set (x8_4 : Int).toNat ((rd_L6 x5_5 x8_4).set (x9_5 : Int).toNat (mn ji62 (wrap64 ((rd (rd_L6 x5_5 (wrap64 (x8_4 - 2))) (wrap64 (x9_5 - 2))) + 1))))) x8_4 (wrap64 (x9_5 + 1))) else (none)) else (none)) else (none)) else (none)) else (none)) else (none)) else (none)) else (none)) = some r := b26_
                  replace H := H1; clear H1
                  obtain ⟨ji80, hji80⟩ : ∃ j_ : Int, (wrap64 (x8_4 - 2)) = j_ := ⟨_, rfl⟩
                  rw [hji80] at H
                  have hji80w : (IntKind.i64.wrap (x8_4 - 2)) = ji80 := (i64_w _).trans hji80
                  replace H := it H; obtain ⟨c81b0, H⟩ := H; replace H := ip H; obtain ⟨c82, H⟩ := H; have c82b0 := decide_eq_true c82
                  have c82b8 := c82b0
                  clear c82; obtain ⟨ji83, hji83⟩ : ∃ j_ : Int, (wrap64 (x9_5 - 2)) = j_ := ⟨_, rfl⟩
                  rw [hji83] at H
                  have hji83w : (IntKind.i64.wrap (x9_5 - 2)) = ji83 := (i64_w _).trans hji83
                  replace H := it H; obtain ⟨c84b0, H⟩ := H; replace H := ip H; obtain ⟨c85, H⟩ := H; have c85b0 := decide_eq_true c85
                  have c85b8 := c85b0
                  clear c85; obtain ⟨ji86, hji86⟩ : ∃ j_ : Int, (mn ji62 (wrap64 ((rd (rd_L6 x5_5 (ji80)) (ji83)) + 1))) = j_ := ⟨_, rfl⟩
                  rw [hji86] at H
                  have hji86_ : (if (wrap64 ((rd (rd_L6 x5_5 (ji80)) (ji83)) + 1)) < ji62 then (wrap64 ((rd (rd_L6 x5_5 (ji80)) (ji83)) + 1)) else ji62) = ji86 := hji86
                  replace H := it H; obtain ⟨c87b0, H⟩ := H; replace H := ip H; obtain ⟨c88, H⟩ := H; have c88b0 := decide_eq_true c88
                  have c88b8 := c88b0
                  clear c88; replace H := it H; obtain ⟨c89b0, H⟩ := H; replace H := ip H; obtain ⟨c90, H⟩ := H; have c90b0 := decide_eq_true c90
                  have c90b8 := c90b0
                  clear c90; obtain ⟨y549, hy549⟩ : ∃ y_ : List Int, y_ = ((rd_L6 x5_5 x8_4).set (x9_5 : Int).toNat (ji86)) := ⟨_, rfl⟩
                  rw [← hy549] at H
                  have Ny549 := am hy549; clear hy549; obtain ⟨y551, hy551⟩ : ∃ y_ : List (List Int), y_ = (x5_5.set (x8_4 : Int).toNat y549) := ⟨_, rfl⟩
                  rw [← hy551] at H
                  have Ny551 := am hy551; clear hy551
                  have H' := am H
                  clear H
                  have p546 : 0 ≤ ((ji80) : Int) := of_decide_eq_true ad
                  have q546 : (ji80) < (x5_5.length : Int) := of_decide_eq_true ad
                  obtain ⟨ad546, A546_0, c546_0, e546, hx546_0, hl546_0, hi546_0⟩ := at_L6 (Kd.S_reads' HO_5.out).2.2 (ji80) p546 q546
                  obtain rfl : ad533 = ad546 := (by injection e546)
                  obtain ⟨ce546, hce546, hMe546, hcc546⟩ := Kd.S_get HO_5.out [] (ji80) p546 (by exact q546)
                  obtain ⟨ve546_0, rfl, ge546_0⟩ := hMe546; have hv546_0 := hcc546 0 _ rfl; rw [Nat.add_zero, show ((Kd.slice 3 (Kd.int .i64))).sz = 1 from rfl, Nat.mul_one] at hv546_0; replace hv546_0 := Option.some.inj (hv546_0.symm.trans hx546_0); rw [hv546_0] at ge546_0; have HL546_0 := am (show Kd.R (Kd.int .i64) 3 _ _ _ _ (rd_L6 x5_5 (ji80)) from ge546_0); clear hv546_0 ge546_0; have HX546_0 := am hx546_0; clear hcc546 hce546; have HR546_0 := am hi546_0; have HC546_0 := am hl546_0; clear hi546_0 hl546_0; replace p546 := eq_true p546; replace q546 := eq_true q546
                  have p547 : 0 ≤ ((ji83) : Int) := of_decide_eq_true ad
                  have q547 : (ji83) < ((rd_L6 x5_5 (ji80)).length : Int) := of_decide_eq_true ad
                  obtain ⟨ad547, e547, hx547_0⟩ := Kd.at_int (by repeat (with_reducible exact HR546_0.out)) (ji83) p547 q547
                  cases e547; replace p547 := eq_true p547; replace q547 := eq_true q547
                  have p548 : 0 ≤ (x8_4 : Int) := of_decide_eq_true ad
                  have q548 : x8_4 < (x5_5.length : Int) := of_decide_eq_true ad
                  obtain ⟨ad548, A548_0, c548_0, e548, hx548_0, hl548_0, hi548_0⟩ := at_L6 (Kd.S_reads' HO_5.out).2.2 x8_4 p548 q548
                  obtain rfl : ad533 = ad548 := (by injection e548)
                  obtain ⟨ce548, hce548, hMe548, hcc548⟩ := Kd.S_get HO_5.out [] x8_4 p548 (by exact q548)
                  obtain ⟨ve548_0, rfl, ge548_0⟩ := hMe548; have hv548_0 := hcc548 0 _ rfl; rw [Nat.add_zero, show ((Kd.slice 3 (Kd.int .i64))).sz = 1 from rfl, Nat.mul_one] at hv548_0; replace hv548_0 := Option.some.inj (hv548_0.symm.trans hx548_0); rw [hv548_0] at ge548_0; have HL548_0 := am (show Kd.R (Kd.int .i64) 3 _ _ _ _ (rd_L6 x5_5 x8_4) from ge548_0); clear hv548_0 ge548_0; have HX548_0 := am hx548_0; clear hcc548 hce548; have HR548_0 := am hi548_0; have HC548_0 := am hl548_0; clear hi548_0 hl548_0; replace p548 := eq_true p548; replace q548 := eq_true q548
                  have p91 : 0 ≤ (x9_5 : Int) := of_decide_eq_true ad
                  have q91 : (x9_5 : Int) < (((rd_L6 x5_5 x8_4).length : Int) : Int) := of_decide_eq_true ad
                  obtain ⟨go91, co91, eo91, gb91, gl91, cl91, HG91⟩ := Kd.R_form HL548_0.out (by omega)
                  (cases eo91)
                  have GB91 := Aside0.mk gb91; have GG91 := am HG91; clear gb91 gl91 HG91; obtain ⟨hx91_0, hf91_0⟩ := Kd.R_celln 0 HL548_0.out (x9_5 : Int) p91 q91; replace p91 := eq_true p91; replace q91 := eq_true q91
                  have hq92 : (x8_4 : Int) < (x5_5.length : Int) := b39_
                  obtain ⟨oki92, ce92, hcl92, hM92, hcc92, hok92, hbk92⟩ := Kd.S_borrow HO_5.out [] (x8_4 : Int) (of_decide_eq_true ad) hq92; obtain ⟨ve92_0, rfl, ge92_0⟩ := hM92; have hv92 := hcc92 0 _ rfl; rw [Nat.add_zero, show ((Kd.slice 3 (Kd.int .i64))).sz = 1 from rfl, Nat.mul_one] at hv92; replace hv92 := Option.some.inj (hv92.symm.trans HX548_0.out); subst hv92; clear hcc92 hcl92; replace ge92_0 := (show Kd.R (Kd.int .i64) 3 _ _ _ _ (rd_L6 x5_5 x8_4) from ge92_0); have HP92 := Kd.R_putg ge92_0 (x9_5 : Int) ji86
                  go_wp2_with ((with_reducible refine gate_store (t := 3) (p := 154) rfl ?_); refine store_event (t := 3) (p := 154) (v := ?vo_w93) (w1 := (wc.setCell ⟨go91, (x9_5 : Int).toNat, none⟩ (.int .i64 ji86))) ?hg ?ho ?hn ?hr ?_; (case ho => rfl); (case hg => rfl); (case hn => rfl); (case hr => (go_simp; done)); intro w93 hw; have hg : wc.grownBy w93 (some go91) := (by rw [hw]; exact HP92.2); have hz_ : Kd.R (Kd.int .i64) 3 w93 w.heap.size oki92 (.slice (some ⟨go91, 0, none⟩) (rd_L6 x5_5 x8_4).length c548_0) y549 := (by rw [hw, Ny549.out]; exact HP92.1); have hp_ : Kd.S (Kd.slice 3 (Kd.int .i64)) 54 w93 w.heap.size (fun _ => True) (.slice (some ad533) x5_5.length co13) y551 := b94_; have hm_ := Kd.R_mono hz_ hok92; clear HP92 hbk92; replace HO_5 := am (hp_); replace HB := am ((by rw [hw]; exact below_set (HB.out) GB91.out : Below w.heap.size w w93)); have HL558 := am (hm_); have HC550 := am ((Kd.R_reads' hm_).2.1); clear HL546_0 HL548_0; clear hg hw hp_ hz_ hm_ hok92)
                  repeat (go_quiet (fail); try go_wp2)
                  simp only [← hl5_5]
                  go_roundg kj62
                  case measure => have := HJ2.out; have := HK2.out; have := HK3.out; have := HK4.out; have := HK5.out; have := HJ48.out; have := HJ62.out; omega
                  case rel => exact ⟨(y551), (wrap64 (x9_5 + 1)), sq, H', ⟨b105_⟩, ⟨b34_⟩, ⟨bel⟩⟩
                 replace c79 := Bool.eq_false_iff.mpr c79; subst c79
                 have H1 : (if 0 ≤ x8_4 then (if x8_4 < (x5_5.length : Int) then (if 0 ≤ x9_5 then (if x9_5 < ((rd_L6 x5_5 x8_4).length : Int) then (impl_Far.l3 kj62 a0 a1 (x5_5.set (x8_4 : Int).toNat ((rd_L6 x5_5 x8_4).set (x9_5 : Int).toNat ji62)) x8_4 (wrap64 (x9_5 + 1))) else (none)) else (none)) else (none)) else (none)) = some r := b10_
                 replace H := H1; clear H1; replace H := it H; obtain ⟨c94b0, H⟩ := H; replace H := ip H; obtain ⟨c95, H⟩ := H; have c95b0 := decide_eq_true c95
                 have c95b8 := c95b0
                 clear c95; replace H := it H; obtain ⟨c96b0, H⟩ := H; replace H := ip H; obtain ⟨c97, H⟩ := H; have c97b0 := decide_eq_true c97
                 have c97b8 := c97b0
                 clear c97; obtain ⟨y553, hy553⟩ : ∃ y_ : List Int, y_ = ((rd_L6 x5_5 x8_4).set (x9_5 : Int).toNat ji62) := ⟨_, rfl⟩
                 rw [← hy553] at H
                 have Ny553 := am hy553; clear hy553; obtain ⟨y555, hy555⟩ : ∃ y_ : List (List Int), y_ = (x5_5.set (x8_4 : Int).toNat y553) := ⟨_, rfl⟩
                 rw [← hy555] at H
                 have Ny555 := am hy555; clear hy555
                 have H' := am H
                 clear H
                 have p552 : 0 ≤ (x8_4 : Int) := of_decide_eq_true ad
                 have q552 : x8_4 < (x5_5.length : Int) := of_decide_eq_true ad
                 obtain ⟨ad552, A552_0, c552_0, e552, hx552_0, hl552_0, hi552_0⟩ := at_L6 (Kd.S_reads' HO_5.out).2.2 x8_4 p552 q552
                 obtain rfl : ad533 = ad552 := (by injection e552)
                 obtain ⟨ce552, hce552, hMe552, hcc552⟩ := Kd.S_get HO_5.out [] x8_4 p552 (by exact q552)
                 obtain ⟨ve552_0, rfl, ge552_0⟩ := hMe552; have hv552_0 := hcc552 0 _ rfl; rw [Nat.add_zero, show ((Kd.slice 3 (Kd.int .i64))).sz = 1 from rfl, Nat.mul_one] at hv552_0; replace hv552_0 := Option.some.inj (hv552_0.symm.trans hx552_0); rw [hv552_0] at ge552_0; have HL552_0 := am (show Kd.R (Kd.int .i64) 3 _ _ _ _ (rd_L6 x5_5 x8_4) from ge552_0); clear hv552_0 ge552_0; have HX552_0 := am hx552_0; clear hcc552 hce552; have HR552_0 := am hi552_0; have HC552_0 := am hl552_0; clear hi552_0 hl552_0; replace p552 := eq_true p552; replace q552 := eq_true q552
                 have p98 : 0 ≤ (x9_5 : Int) := of_decide_eq_true ad
                 have q98 : (x9_5 : Int) < (((rd_L6 x5_5 x8_4).length : Int) : Int) := of_decide_eq_true ad
                 obtain ⟨go98, co98, eo98, gb98, gl98, cl98, HG98⟩ := Kd.R_form HL552_0.out (by omega)
                 (cases eo98)
                 have GB98 := Aside0.mk gb98; have GG98 := am HG98; clear gb98 gl98 HG98; obtain ⟨hx98_0, hf98_0⟩ := Kd.R_celln 0 HL552_0.out (x9_5 : Int) p98 q98; replace p98 := eq_true p98; replace q98 := eq_true q98
                 have hq99 : (x8_4 : Int) < (x5_5.length : Int) := b39_
                 obtain ⟨oki99, ce99, hcl99, hM99, hcc99, hok99, hbk99⟩ := Kd.S_borrow HO_5.out [] (x8_4 : Int) (of_decide_eq_true ad) hq99; obtain ⟨ve99_0, rfl, ge99_0⟩ := hM99; have hv99 := hcc99 0 _ rfl; rw [Nat.add_zero, show ((Kd.slice 3 (Kd.int .i64))).sz = 1 from rfl, Nat.mul_one] at hv99; replace hv99 := Option.some.inj (hv99.symm.trans HX552_0.out); subst hv99; clear hcc99 hcl99; replace ge99_0 := (show Kd.R (Kd.int .i64) 3 _ _ _ _ (rd_L6 x5_5 x8_4) from ge99_0); have HP99 := Kd.R_putg ge99_0 (x9_5 : Int) ji62
                 go_wp2_with ((with_reducible refine gate_store (t := 3) (p := 154) rfl ?_); refine store_event (t := 3) (p := 154) (v := ?vo_w100) (w1 := (wc.setCell ⟨go98, (x9_5 : Int).toNat, none⟩ (.int .i64 ji62))) ?hg ?ho ?hn ?hr ?_; (case ho => rfl); (case hg => rfl); (case hn => rfl); (case hr => (go_simp; done)); intro w100 hw; have hg : wc.grownBy w100 (some go98) := (by rw [hw]; exact HP99.2); have hz_ : Kd.R (Kd.int .i64) 3 w100 w.heap.size oki99 (.slice (some ⟨go98, 0, none⟩) (rd_L6 x5_5 x8_4).length c552_0) y553 := (by rw [hw, Ny553.out]; exact HP99.1); have hp_ : Kd.S (Kd.slice 3 (Kd.int .i64)) 54 w100 w.heap.size (fun _ => True) (.slice (some ad533) x5_5.length co13) y555 := b95_; have hm_ := Kd.R_mono hz_ hok99; clear HP99 hbk99; replace HO_5 := am (hp_); replace HB := am ((by rw [hw]; exact below_set (HB.out) GB98.out : Below w.heap.size w w100)); have HL559 := am (hm_); have HC554 := am ((Kd.R_reads' hm_).2.1); clear HL552_0; clear hg hw hp_ hz_ hm_ hok99)
                 repeat (go_quiet (fail); try go_wp2)
                 simp only [← hl5_5]
                 go_roundg kj62
                 case measure => have := HJ2.out; have := HK2.out; have := HK3.out; have := HK4.out; have := HK5.out; have := HJ48.out; have := HJ62.out; omega
                 case rel => exact ⟨(y555), (wrap64 (x9_5 + 1)), sq, H', ⟨b105_⟩, ⟨b34_⟩, ⟨bel⟩⟩
            rw [if_neg c38] at H; have c38b0 := decide_eq_false c38; clear c38
            have H' := am H
            clear H; go_wp2
            repeat (go_quiet (fail); try go_wp2)
            simp only [← hl5_4, ← hl5_5]
            go_roundg k5
            case measure => have := HJ2.out; have := HK2.out; have := HK3.out; have := HK4.out; have := HK5.out; omega
            case rel => exact ⟨(x5_5), (wrap64 (x8_4 + 1)), sq, H', ⟨by have := HJ2.out; have := HK2.out; have := HK3.out; have := HK4.out; have := HK5.out; omega⟩, ⟨b34_⟩, ⟨bel⟩⟩
         rw [if_neg c37] at H; have c37b0 := decide_eq_false c37; clear c37; replace H := ip H; obtain ⟨c101, H⟩ := H; have c101b0 := decide_eq_true c101
         have c101b1 : decide (0 ≤ a0.size) = true := decide_eq_true (by omega)
         clear c101; replace H := ip H; obtain ⟨c102, H⟩ := H; have c102b0 := decide_eq_true c102
         have c102b8 := c102b0
         have c102b1 : decide (a0.size < x5_4.length) = true := decide_eq_true (Int.ofNat_lt.mp c102)
         clear c102; replace H := ip H; obtain ⟨c103, H⟩ := H; have c103b0 := decide_eq_true c103
         have c103b1 : decide (0 ≤ a1.size) = true := decide_eq_true (by omega)
         clear c103; replace H := ip H; obtain ⟨c104, H⟩ := H; have c104b0 := decide_eq_true c104
         have c104b8 := c104b0
         have c104b1 : decide (a1.size < (rd_L6 x5_4 (a0.size : Int)).length) = true := decide_eq_true (Int.ofNat_lt.mp c104)
         clear c104; obtain rfl := Option.some.inj H
         have p538 : 0 ≤ ((a0.size : Int) : Int) := of_decide_eq_true ad
         have q538 : (a0.size : Int) < (x5_4.length : Int) := of_decide_eq_true ad
         obtain ⟨ad538, A538_0, c538_0, e538, hx538_0, hl538_0, hi538_0⟩ := at_L6 (Kd.S_reads' HO_5.out).2.2 (a0.size : Int) p538 q538
         obtain rfl : ad533 = ad538 := (by injection e538)
         obtain ⟨ce538, hce538, hMe538, hcc538⟩ := Kd.S_get HO_5.out [] (a0.size : Int) p538 (by exact q538)
         obtain ⟨ve538_0, rfl, ge538_0⟩ := hMe538; have hv538_0 := hcc538 0 _ rfl; rw [Nat.add_zero, show ((Kd.slice 3 (Kd.int .i64))).sz = 1 from rfl, Nat.mul_one] at hv538_0; replace hv538_0 := Option.some.inj (hv538_0.symm.trans hx538_0); rw [hv538_0] at ge538_0; have HL538_0 := am (show Kd.R (Kd.int .i64) 3 _ _ _ _ (rd_L6 x5_4 (a0.size : Int)) from ge538_0); clear hv538_0 ge538_0; have HX538_0 := am hx538_0; clear hcc538 hce538; have HR538_0 := am hi538_0; have HC538_0 := am hl538_0; clear hi538_0 hl538_0; replace p538 := eq_true p538; replace q538 := eq_true q538
         (have qn538 : (a0.size < x5_4.length) = True := eq_true (by have h_ := of_eq_true q538; omega))
         simp only [Int.toNat_natCast] at hx538_0
         have p539 : 0 ≤ ((a1.size : Int) : Int) := of_decide_eq_true ad
         have q539 : (a1.size : Int) < ((rd_L6 x5_4 (a0.size : Int)).length : Int) := of_decide_eq_true ad
         obtain ⟨ad539, e539, hx539_0⟩ := Kd.at_int (by repeat (with_reducible exact HR538_0.out)) (a1.size : Int) p539 q539
         cases e539; replace p539 := eq_true p539; replace q539 := eq_true q539
         (have qn539 : (a1.size < (rd_L6 x5_4 (a0.size : Int)).length) = True := eq_true (by have h_ := of_eq_true q539; omega))
         simp only [Int.toNat_natCast] at hx539_0
         go_wp2
         repeat (go_quiet (fail); try go_wp2)
         go_ret
         exact ⟨b82_, bel⟩
end Go.Proofs.YtdfnijaacnlfaaaGreat.QFnBookGuesses
