import Derived.Test.YtedfcehhgbeibaaQFnNearBothx0
import Derived.Test.YtedfcehhgbeibaaQFnNearBothx1
namespace Go.Proofs.Ytedfcehhgbeibaa.QFnNearBoth
open Go.RowKit Go.Proofs.YtedfcehhgbeibaaW.PrintWords Go.Proofs.YtedfcehhgbeibaaW.PrintLast Go.Proofs.YtedfcehhgbeibaaW.PrintMore
attribute [local go_sem] max2_int min2_int max_two min_two max_three min_three max_four min_four   -- for this text's walks alone
set_option linter.unusedVariables false
set_option linter.unusedSimpArgs false

/-! ### impl_Far: function 49 -/
mutual
def impl_Far.j0 : Nat → ByteArray → ByteArray → Bool → Option (Int)
  | 0, _, _, _ => none
  | k + 1, x0, x1, x18 => if x18 = true then (some (-1)) else (if 0 ≤ (wrap64 ((x0.size : Int) + 1)) then (if (wrap64 ((x0.size : Int) + 1) : Int).toNat ≤ 11728124029610 then ((some (List.replicate (wrap64 ((x0.size : Int) + 1) : Int).toNat [] : List (List Int))).bind fun y222 => (impl_Far.l0 k x0 x1 y222 (y222.length : Int) 0)) else (none)) else (none))
def impl_Far.l0 : Nat → ByteArray → ByteArray → List (List Int) → Int → Int → Option (Int)
  | 0, _, _, _, _, _ => none
  | k + 1, x0, x1, x5, x24, x25 => if x25 < x24 then (if 0 ≤ (wrap64 ((x1.size : Int) + 1)) then (if (wrap64 ((x1.size : Int) + 1) : Int).toNat ≤ 35184372088832 then (if 0 ≤ x25 then (if x25 < (x5.length : Int) then ((some (x5.set (x25 : Int).toNat (List.replicate (wrap64 ((x1.size : Int) + 1) : Int).toNat 0) : List (List Int))).bind fun y228 => (if 0 < ((rd_L3 y228 x25).length : Int) then (impl_Far.l0 k x0 x1 (y228.set (x25 : Int).toNat ((rd_L3 y228 x25).set (0 : Int).toNat x25)) x24 (wrap64 (x25 + 1))) else (none))) else (none)) else (none)) else (none)) else (none)) else (if 0 < (x5.length : Int) then (impl_Far.l1 k x0 x1 x5 ((rd_L3 x5 0).length : Int) 0) else (none))
def impl_Far.l1 : Nat → ByteArray → ByteArray → List (List Int) → Int → Int → Option (Int)
  | 0, _, _, _, _, _ => none
  | k + 1, x0, x1, x5, x45, x46 => if x46 < x45 then (if 0 < (x5.length : Int) then (if 0 ≤ x46 then (if x46 < ((rd_L3 x5 0).length : Int) then (impl_Far.l1 k x0 x1 (x5.set (0 : Int).toNat ((rd_L3 x5 0).set (x46 : Int).toNat x46)) x45 (wrap64 (x46 + 1))) else (none)) else (none)) else (none)) else (impl_Far.l2 k x0 x1 x5 1)
def impl_Far.l2 : Nat → ByteArray → ByteArray → List (List Int) → Int → Option (Int)
  | 0, _, _, _, _ => none
  | k + 1, x0, x1, x5, x8 => if x8 ≤ (x0.size : Int) then (impl_Far.l3 k x0 x1 x5 x8 1) else (if 0 ≤ (x0.size : Int) then (if (x0.size : Int) < (x5.length : Int) then (if 0 ≤ (x1.size : Int) then (if (x1.size : Int) < ((rd_L3 x5 (x0.size : Int)).length : Int) then (some (rd (rd_L3 x5 (x0.size : Int)) (x1.size : Int))) else (none)) else (none)) else (none)) else (none))
def impl_Far.l3 : Nat → ByteArray → ByteArray → List (List Int) → Int → Int → Option (Int)
  | 0, _, _, _, _, _ => none
  | k + 1, x0, x1, x5, x8, x9 => if x9 ≤ (x1.size : Int) then (if 0 ≤ (wrap64 (x8 - 1)) then (if (wrap64 (x8 - 1)) < (x5.length : Int) then (if 0 ≤ (wrap64 (x9 - 1)) then (if (wrap64 (x9 - 1)) < ((rd_L3 x5 (wrap64 (x8 - 1))).length : Int) then (if (wrap64 (x8 - 1)) < (x0.size : Int) then (if (wrap64 (x9 - 1)) < (x1.size : Int) then (if (bt x0 (wrap64 (x8 - 1))) = (bt x1 (wrap64 (x9 - 1))) then (impl_Far.j5 k x0 x1 x5 x8 x9 (rd (rd_L3 x5 (wrap64 (x8 - 1))) (wrap64 (x9 - 1)))) else (impl_Far.j5 k x0 x1 x5 x8 x9 (wrap64 ((rd (rd_L3 x5 (wrap64 (x8 - 1))) (wrap64 (x9 - 1))) + 1)))) else (none)) else (none)) else (none)) else (none)) else (none)) else (none)) else (impl_Far.l2 k x0 x1 x5 (wrap64 (x8 + 1)))
def impl_Far.j5 : Nat → ByteArray → ByteArray → List (List Int) → Int → Int → Int → Option (Int)
  | 0, _, _, _, _, _, _ => none
  | k + 1, x0, x1, x5, x8, x9, x10 => if 0 ≤ (wrap64 (x8 - 1)) then (if (wrap64 (x8 - 1)) < (x5.length : Int) then (if 0 ≤ x9 then (if x9 < ((rd_L3 x5 (wrap64 (x8 - 1))).length : Int) then (if 0 ≤ x8 then (if x8 < (x5.length : Int) then (if 0 ≤ (wrap64 (x9 - 1)) then (if (wrap64 (x9 - 1)) < ((rd_L3 x5 x8).length : Int) then (if x8 > 1 then (if x9 > 1 then (if (wrap64 (x8 - 1)) < (x0.size : Int) then (if 0 ≤ (wrap64 (x9 - 2)) then (if (wrap64 (x9 - 2)) < (x1.size : Int) then (if (bt x0 (wrap64 (x8 - 1))) = (bt x1 (wrap64 (x9 - 2))) then (if 0 ≤ (wrap64 (x8 - 2)) then (if (wrap64 (x8 - 2)) < (x0.size : Int) then (if (wrap64 (x9 - 1)) < (x1.size : Int) then (impl_Far.j6 k x0 x1 x5 x8 x9 (mn (mn x10 (wrap64 ((rd (rd_L3 x5 (wrap64 (x8 - 1))) x9) + 1))) (wrap64 ((rd (rd_L3 x5 x8) (wrap64 (x9 - 1))) + 1))) ((bt x0 (wrap64 (x8 - 2))) == (bt x1 (wrap64 (x9 - 1))))) else (none)) else (none)) else (none)) else (impl_Far.j6 k x0 x1 x5 x8 x9 (mn (mn x10 (wrap64 ((rd (rd_L3 x5 (wrap64 (x8 - 1))) x9) + 1))) (wrap64 ((rd (rd_L3 x5 x8) (wrap64 (x9 - 1))) + 1))) false)) else (none)) else (none)) else (none)) else (impl_Far.j6 k x0 x1 x5 x8 x9 (mn (mn x10 (wrap64 ((rd (rd_L3 x5 (wrap64 (x8 - 1))) x9) + 1))) (wrap64 ((rd (rd_L3 x5 x8) (wrap64 (x9 - 1))) + 1))) false)) else (impl_Far.j6 k x0 x1 x5 x8 x9 (mn (mn x10 (wrap64 ((rd (rd_L3 x5 (wrap64 (x8 - 1))) x9) + 1))) (wrap64 ((rd (rd_L3 x5 x8) (wrap64 (x9 - 1))) + 1))) false)) else (none)) else (none)) else (none)) else (none)) else (none)) else (none)) else (none)) else (none)
def impl_Far.j6 : Nat → ByteArray → ByteArray → List (List Int) → Int → Int → Int → Bool → Option (Int)
  | 0, _, _, _, _, _, _, _ => none
  | k + 1, x0, x1, x5, x8, x9, x10, x135 => if x135 = true then (if 0 ≤ (wrap64 (x8 - 2)) then (if (wrap64 (x8 - 2)) < (x5.length : Int) then (if 0 ≤ (wrap64 (x9 - 2)) then (if (wrap64 (x9 - 2)) < ((rd_L3 x5 (wrap64 (x8 - 2))).length : Int) then (if 0 ≤ x8 then (if x8 < (x5.length : Int) then (if 0 ≤ x9 then (if x9 < ((rd_L3 x5 x8).length : Int) then (impl_Far.l3 k x0 x1 (x5.set (x8 : Int).toNat ((rd_L3 x5 x8).set (x9 : Int).toNat (mn x10 (wrap64 ((rd (rd_L3 x5 (wrap64 (x8 - 2))) (wrap64 (x9 - 2))) + 1))))) x8 (wrap64 (x9 + 1))) else (none)) else (none)) else (none)) else (none)) else (none)) else (none)) else (none)) else (none)) else (if 0 ≤ x8 then (if x8 < (x5.length : Int) then (if 0 ≤ x9 then (if x9 < ((rd_L3 x5 x8).length : Int) then (impl_Far.l3 k x0 x1 (x5.set (x8 : Int).toNat ((rd_L3 x5 x8).set (x9 : Int).toNat x10)) x8 (wrap64 (x9 + 1))) else (none)) else (none)) else (none)) else (none))
end
def impl_Far.f (k : Nat) (a0 : ByteArray) (a1 : ByteArray) : Option (Int) := (impl_WordOk.f k a0).bind fun t220 => (if t220 = true then ((impl_WordOk.f k a1).bind fun t221 => (impl_Far.j0 k a0 a1 (!t221))) else (impl_Far.j0 k a0 a1 true))
theorem impl_Far.mono_l : ∀ k, (∀ y0 y1 y2, LeO (impl_Far.j0 k y0 y1 y2) (impl_Far.j0 (k + 1) y0 y1 y2)) ∧ (∀ y0 y1 y2 y3 y4, LeO (impl_Far.l0 k y0 y1 y2 y3 y4) (impl_Far.l0 (k + 1) y0 y1 y2 y3 y4)) ∧ (∀ y0 y1 y2 y3 y4, LeO (impl_Far.l1 k y0 y1 y2 y3 y4) (impl_Far.l1 (k + 1) y0 y1 y2 y3 y4)) ∧ (∀ y0 y1 y2 y3, LeO (impl_Far.l2 k y0 y1 y2 y3) (impl_Far.l2 (k + 1) y0 y1 y2 y3)) ∧ (∀ y0 y1 y2 y3 y4, LeO (impl_Far.l3 k y0 y1 y2 y3 y4) (impl_Far.l3 (k + 1) y0 y1 y2 y3 y4)) ∧ (∀ y0 y1 y2 y3 y4 y5, LeO (impl_Far.j5 k y0 y1 y2 y3 y4 y5) (impl_Far.j5 (k + 1) y0 y1 y2 y3 y4 y5)) ∧ (∀ y0 y1 y2 y3 y4 y5 y6, LeO (impl_Far.j6 k y0 y1 y2 y3 y4 y5 y6) (impl_Far.j6 (k + 1) y0 y1 y2 y3 y4 y5 y6))
  | 0 => ⟨fun _ _ _ r h => by simp [impl_Far.j0] at h, fun _ _ _ _ _ r h => by simp [impl_Far.l0] at h, fun _ _ _ _ _ r h => by simp [impl_Far.l1] at h, fun _ _ _ _ r h => by simp [impl_Far.l2] at h, fun _ _ _ _ _ r h => by simp [impl_Far.l3] at h, fun _ _ _ _ _ _ r h => by simp [impl_Far.j5] at h, fun _ _ _ _ _ _ _ r h => by simp [impl_Far.j6] at h⟩
  | k + 1 => by
    obtain ⟨ih0, ih1, ih2, ih3, ih4, ih5, ih6⟩ := impl_Far.mono_l k
    refine ⟨?_, ?_, ?_, ?_, ?_, ?_, ?_⟩
    · intro y0 y1 y2
      unfold impl_Far.j0
      repeat' first
      | (with_reducible exact ih0 _ _ _)
      | (with_reducible exact ih1 _ _ _ _ _)
      | (with_reducible exact ih2 _ _ _ _ _)
      | (with_reducible exact ih3 _ _ _ _)
      | (with_reducible exact ih4 _ _ _ _ _)
      | (with_reducible exact ih5 _ _ _ _ _ _)
      | (with_reducible exact ih6 _ _ _ _ _ _ _)
      | (with_reducible exact impl_WordOk.mono _ _)
      | (with_reducible exact LeO.refl _)
      | (with_reducible exact LeO.none _)
      | (with_reducible refine LeO.ite ?_ ?_)
      | (with_reducible refine LeO.bind ?_ (fun _ => ?_))
      | exact ih0 _ _ _
      | exact ih1 _ _ _ _ _
      | exact ih2 _ _ _ _ _
      | exact ih3 _ _ _ _
      | exact ih4 _ _ _ _ _
      | exact ih5 _ _ _ _ _ _
      | exact ih6 _ _ _ _ _ _ _
      | exact impl_WordOk.mono _ _
      | exact LeO.none _
      | refine LeO.ite ?_ ?_
      | refine LeO.bind ?_ (fun _ => ?_)
    · intro y0 y1 y2 y3 y4
      unfold impl_Far.l0
      repeat' first
      | (with_reducible exact ih0 _ _ _)
      | (with_reducible exact ih1 _ _ _ _ _)
      | (with_reducible exact ih2 _ _ _ _ _)
      | (with_reducible exact ih3 _ _ _ _)
      | (with_reducible exact ih4 _ _ _ _ _)
      | (with_reducible exact ih5 _ _ _ _ _ _)
      | (with_reducible exact ih6 _ _ _ _ _ _ _)
      | (with_reducible exact impl_WordOk.mono _ _)
      | (with_reducible exact LeO.refl _)
      | (with_reducible exact LeO.none _)
      | (with_reducible refine LeO.ite ?_ ?_)
      | (with_reducible refine LeO.bind ?_ (fun _ => ?_))
      | exact ih0 _ _ _
      | exact ih1 _ _ _ _ _
      | exact ih2 _ _ _ _ _
      | exact ih3 _ _ _ _
      | exact ih4 _ _ _ _ _
      | exact ih5 _ _ _ _ _ _
      | exact ih6 _ _ _ _ _ _ _
      | exact impl_WordOk.mono _ _
      | exact LeO.none _
      | refine LeO.ite ?_ ?_
      | refine LeO.bind ?_ (fun _ => ?_)
    · intro y0 y1 y2 y3 y4
      unfold impl_Far.l1
      repeat' first
      | (with_reducible exact ih0 _ _ _)
      | (with_reducible exact ih1 _ _ _ _ _)
      | (with_reducible exact ih2 _ _ _ _ _)
      | (with_reducible exact ih3 _ _ _ _)
      | (with_reducible exact ih4 _ _ _ _ _)
      | (with_reducible exact ih5 _ _ _ _ _ _)
      | (with_reducible exact ih6 _ _ _ _ _ _ _)
      | (with_reducible exact impl_WordOk.mono _ _)
      | (with_reducible exact LeO.refl _)
      | (with_reducible exact LeO.none _)
      | (with_reducible refine LeO.ite ?_ ?_)
      | (with_reducible refine LeO.bind ?_ (fun _ => ?_))
      | exact ih0 _ _ _
      | exact ih1 _ _ _ _ _
      | exact ih2 _ _ _ _ _
      | exact ih3 _ _ _ _
      | exact ih4 _ _ _ _ _
      | exact ih5 _ _ _ _ _ _
      | exact ih6 _ _ _ _ _ _ _
      | exact impl_WordOk.mono _ _
      | exact LeO.none _
      | refine LeO.ite ?_ ?_
      | refine LeO.bind ?_ (fun _ => ?_)
    · intro y0 y1 y2 y3
      unfold impl_Far.l2
      repeat' first
      | (with_reducible exact ih0 _ _ _)
      | (with_reducible exact ih1 _ _ _ _ _)
      | (with_reducible exact ih2 _ _ _ _ _)
      | (with_reducible exact ih3 _ _ _ _)
      | (with_reducible exact ih4 _ _ _ _ _)
      | (with_reducible exact ih5 _ _ _ _ _ _)
      | (with_reducible exact ih6 _ _ _ _ _ _ _)
      | (with_reducible exact impl_WordOk.mono _ _)
      | (with_reducible exact LeO.refl _)
      | (with_reducible exact LeO.none _)
      | (with_reducible refine LeO.ite ?_ ?_)
      | (with_reducible refine LeO.bind ?_ (fun _ => ?_))
      | exact ih0 _ _ _
      | exact ih1 _ _ _ _ _
      | exact ih2 _ _ _ _ _
      | exact ih3 _ _ _ _
      | exact ih4 _ _ _ _ _
      | exact ih5 _ _ _ _ _ _
      | exact ih6 _ _ _ _ _ _ _
      | exact impl_WordOk.mono _ _
      | exact LeO.none _
      | refine LeO.ite ?_ ?_
      | refine LeO.bind ?_ (fun _ => ?_)
    · intro y0 y1 y2 y3 y4
      unfold impl_Far.l3
      repeat' first
      | (with_reducible exact ih0 _ _ _)
      | (with_reducible exact ih1 _ _ _ _ _)
      | (with_reducible exact ih2 _ _ _ _ _)
      | (with_reducible exact ih3 _ _ _ _)
      | (with_reducible exact ih4 _ _ _ _ _)
      | (with_reducible exact ih5 _ _ _ _ _ _)
      | (with_reducible exact ih6 _ _ _ _ _ _ _)
      | (with_reducible exact impl_WordOk.mono _ _)
      | (with_reducible exact LeO.refl _)
      | (with_reducible exact LeO.none _)
      | (with_reducible refine LeO.ite ?_ ?_)
      | (with_reducible refine LeO.bind ?_ (fun _ => ?_))
      | exact ih0 _ _ _
      | exact ih1 _ _ _ _ _
      | exact ih2 _ _ _ _ _
      | exact ih3 _ _ _ _
      | exact ih4 _ _ _ _ _
      | exact ih5 _ _ _ _ _ _
      | exact ih6 _ _ _ _ _ _ _
      | exact impl_WordOk.mono _ _
      | exact LeO.none _
      | refine LeO.ite ?_ ?_
      | refine LeO.bind ?_ (fun _ => ?_)
    · intro y0 y1 y2 y3 y4 y5
      unfold impl_Far.j5
      repeat' first
      | (with_reducible exact ih0 _ _ _)
      | (with_reducible exact ih1 _ _ _ _ _)
      | (with_reducible exact ih2 _ _ _ _ _)
      | (with_reducible exact ih3 _ _ _ _)
      | (with_reducible exact ih4 _ _ _ _ _)
      | (with_reducible exact ih5 _ _ _ _ _ _)
      | (with_reducible exact ih6 _ _ _ _ _ _ _)
      | (with_reducible exact impl_WordOk.mono _ _)
      | (with_reducible exact LeO.refl _)
      | (with_reducible exact LeO.none _)
      | (with_reducible refine LeO.ite ?_ ?_)
      | (with_reducible refine LeO.bind ?_ (fun _ => ?_))
      | exact ih0 _ _ _
      | exact ih1 _ _ _ _ _
      | exact ih2 _ _ _ _ _
      | exact ih3 _ _ _ _
      | exact ih4 _ _ _ _ _
      | exact ih5 _ _ _ _ _ _
      | exact ih6 _ _ _ _ _ _ _
      | exact impl_WordOk.mono _ _
      | exact LeO.none _
      | refine LeO.ite ?_ ?_
      | refine LeO.bind ?_ (fun _ => ?_)
    · intro y0 y1 y2 y3 y4 y5 y6
      unfold impl_Far.j6
      repeat' first
      | (with_reducible exact ih0 _ _ _)
      | (with_reducible exact ih1 _ _ _ _ _)
      | (with_reducible exact ih2 _ _ _ _ _)
      | (with_reducible exact ih3 _ _ _ _)
      | (with_reducible exact ih4 _ _ _ _ _)
      | (with_reducible exact ih5 _ _ _ _ _ _)
      | (with_reducible exact ih6 _ _ _ _ _ _ _)
      | (with_reducible exact impl_WordOk.mono _ _)
      | (with_reducible exact LeO.refl _)
      | (with_reducible exact LeO.none _)
      | (with_reducible refine LeO.ite ?_ ?_)
      | (with_reducible refine LeO.bind ?_ (fun _ => ?_))
      | exact ih0 _ _ _
      | exact ih1 _ _ _ _ _
      | exact ih2 _ _ _ _ _
      | exact ih3 _ _ _ _
      | exact ih4 _ _ _ _ _
      | exact ih5 _ _ _ _ _ _
      | exact ih6 _ _ _ _ _ _ _
      | exact impl_WordOk.mono _ _
      | exact LeO.none _
      | refine LeO.ite ?_ ?_
      | refine LeO.bind ?_ (fun _ => ?_)
theorem impl_Far.mono : ∀ a0 a1 k, LeO (impl_Far.f k a0 a1) (impl_Far.f (k + 1) a0 a1) := by
  intro a0 a1 k
  obtain ⟨ih0, ih1, ih2, ih3, ih4, ih5, ih6⟩ := impl_Far.mono_l k
  unfold impl_Far.f
  repeat' first
      | (with_reducible exact ih0 _ _ _)
      | (with_reducible exact ih1 _ _ _ _ _)
      | (with_reducible exact ih2 _ _ _ _ _)
      | (with_reducible exact ih3 _ _ _ _)
      | (with_reducible exact ih4 _ _ _ _ _)
      | (with_reducible exact ih5 _ _ _ _ _ _)
      | (with_reducible exact ih6 _ _ _ _ _ _ _)
      | (with_reducible exact impl_WordOk.mono _ _)
      | (with_reducible exact LeO.refl _)
      | (with_reducible exact LeO.none _)
      | (with_reducible refine LeO.ite ?_ ?_)
      | (with_reducible refine LeO.bind ?_ (fun _ => ?_))
      | exact ih0 _ _ _
      | exact ih1 _ _ _ _ _
      | exact ih2 _ _ _ _ _
      | exact ih3 _ _ _ _
      | exact ih4 _ _ _ _ _
      | exact ih5 _ _ _ _ _ _
      | exact ih6 _ _ _ _ _ _ _
      | exact impl_WordOk.mono _ _
      | exact LeO.none _
      | refine LeO.ite ?_ ?_
      | refine LeO.bind ?_ (fun _ => ?_)
set_option maxHeartbeats 8000000 in
set_option maxRecDepth 100000 in
theorem impl_Far.calls (k : Nat) (a0 : ByteArray) (a1 : ByteArray) (r : Int) (w : World) (h : impl_Far.f k a0 a1 = some r) :
    Calls Try.prog 49 #[.string a0, .string a1] w fun e w' => e = .returned (.int .i64 r) ∧ Below w.heap.size w w' := by
  have HB := Aside0.mk (Below.refl w.heap.size w)
  have H : ((impl_WordOk.f k a0).bind fun t220 => (if t220 = true then ((impl_WordOk.f k a1).bind fun t221 => (impl_Far.j0 k a0 a1 (!t221))) else (impl_Far.j0 k a0 a1 true))) = some r := h
  clear h
  have HC3 := Aside0.mk H
  clear H
  go_enter Try.func49, Try.ntmps49
  go_upto_region 1 with (fail)
  repeat (go_quiet (fail); go_upto_region 1 with (fail))
  go_cut [18] (fun v18 wc => ∃ (kq : Nat) (x18_2 : Bool), v18 = .bool x18_2 ∧ Aside0 (impl_Far.j0 kq a0 a1 x18_2 = some r) ∧ Aside0 (kq ≤ k) ∧ Aside0 (Below w.heap.size w wc))
  case first =>
    have H := HC3.out
    clear HC3
    replace H := Option.bind_eq_some_iff.mp H
    obtain ⟨t220, A40, H⟩ := H
    replace H : (if t220 = true then ((impl_WordOk.f k a1).bind fun t221 => (impl_Far.j0 k a0 a1 (!t221))) else (impl_Far.j0 k a0 a1 true)) = some r := H
    have A4 := Aside0.mk A40
    clear A40
    by_cases c5 : t220 = true
    · subst c5
      have H1 : ((impl_WordOk.f k a1).bind fun t221 => (impl_Far.j0 k a0 a1 (!t221))) = some r := by rw [if_pos rfl] at H; exact H
      clear H
      have H := H1
      clear H1
      replace H := Option.bind_eq_some_iff.mp H
      obtain ⟨t221, A60, H⟩ := H
      replace H : (impl_Far.j0 k a0 a1 (!t221)) = some r := H
      have A6 := Aside0.mk A60
      clear A60
      have H' := Aside0.mk H
      clear H
      go_wp2_with (first | (go_at_call 30; (with_reducible refine (impl_WordOk.calls k a0 true _ A4.out).mono ?_); rintro e w' ⟨rfl, ⟨nd, rfl⟩⟩; (try first | exact ⟨rfl, _, World.drewN_drewN _ _ _⟩ | exact ⟨rfl, _, Eq.trans (World.drewN_drewN _ _ _) (congrArg (World.drewN _) (Nat.add_assoc _ _ _))⟩)) | (go_at_call 30; (with_reducible refine (impl_WordOk.calls k a1 t221 _ A6.out).mono ?_); rintro e w' ⟨rfl, ⟨nd, rfl⟩⟩; (try first | exact ⟨rfl, _, World.drewN_drewN _ _ _⟩ | exact ⟨rfl, _, Eq.trans (World.drewN_drewN _ _ _) (congrArg (World.drewN _) (Nat.add_assoc _ _ _))⟩)))
      repeat (go_quiet (first | (go_at_call 30; (with_reducible refine (impl_WordOk.calls k a0 true _ A4.out).mono ?_); rintro e w' ⟨rfl, ⟨nd, rfl⟩⟩; (try first | exact ⟨rfl, _, World.drewN_drewN _ _ _⟩ | exact ⟨rfl, _, Eq.trans (World.drewN_drewN _ _ _) (congrArg (World.drewN _) (Nat.add_assoc _ _ _))⟩)) | (go_at_call 30; (with_reducible refine (impl_WordOk.calls k a1 t221 _ A6.out).mono ?_); rintro e w' ⟨rfl, ⟨nd, rfl⟩⟩; (try first | exact ⟨rfl, _, World.drewN_drewN _ _ _⟩ | exact ⟨rfl, _, Eq.trans (World.drewN_drewN _ _ _) (congrArg (World.drewN _) (Nat.add_assoc _ _ _))⟩))); try go_wp2_with (first | (go_at_call 30; (with_reducible refine (impl_WordOk.calls k a0 true _ A4.out).mono ?_); rintro e w' ⟨rfl, ⟨nd, rfl⟩⟩; (try first | exact ⟨rfl, _, World.drewN_drewN _ _ _⟩ | exact ⟨rfl, _, Eq.trans (World.drewN_drewN _ _ _) (congrArg (World.drewN _) (Nat.add_assoc _ _ _))⟩)) | (go_at_call 30; (with_reducible refine (impl_WordOk.calls k a1 t221 _ A6.out).mono ?_); rintro e w' ⟨rfl, ⟨nd, rfl⟩⟩; (try first | exact ⟨rfl, _, World.drewN_drewN _ _ _⟩ | exact ⟨rfl, _, Eq.trans (World.drewN_drewN _ _ _) (congrArg (World.drewN _) (Nat.add_assoc _ _ _))⟩))))
      go_meet
      case rel => exact ⟨_, (!t221), (by first | rfl | (simp; done) | (simp [*]; done)), H', ⟨by first | omega | exact Nat.le_refl _⟩, ⟨by repeat (first | (with_reducible first | exact HB.out | apply below_alloc | apply pw_below_drewN | apply below_drew1) | exact HB.out)⟩⟩
    · replace c5 := Bool.eq_false_iff.mpr c5
      subst c5
      have H1 : (impl_Far.j0 k a0 a1 true) = some r := by rw [if_neg (show ¬ (false = true) by decide)] at H; exact H
      clear H
      have H := H1
      clear H1
      have H' := Aside0.mk H
      clear H
      go_wp2_with (first | (go_at_call 30; (with_reducible refine (impl_WordOk.calls k a0 false _ A4.out).mono ?_); rintro e w' ⟨rfl, ⟨nd, rfl⟩⟩; (try first | exact ⟨rfl, _, World.drewN_drewN _ _ _⟩ | exact ⟨rfl, _, Eq.trans (World.drewN_drewN _ _ _) (congrArg (World.drewN _) (Nat.add_assoc _ _ _))⟩)))
      repeat (go_quiet (first | (go_at_call 30; (with_reducible refine (impl_WordOk.calls k a0 false _ A4.out).mono ?_); rintro e w' ⟨rfl, ⟨nd, rfl⟩⟩; (try first | exact ⟨rfl, _, World.drewN_drewN _ _ _⟩ | exact ⟨rfl, _, Eq.trans (World.drewN_drewN _ _ _) (congrArg (World.drewN _) (Nat.add_assoc _ _ _))⟩))); try go_wp2_with (first | (go_at_call 30; (with_reducible refine (impl_WordOk.calls k a0 false _ A4.out).mono ?_); rintro e w' ⟨rfl, ⟨nd, rfl⟩⟩; (try first | exact ⟨rfl, _, World.drewN_drewN _ _ _⟩ | exact ⟨rfl, _, Eq.trans (World.drewN_drewN _ _ _) (congrArg (World.drewN _) (Nat.add_assoc _ _ _))⟩))))
      go_meet
      case rel => exact ⟨_, (true), (by first | rfl | (simp; done) | (simp [*]; done)), H', ⟨by first | omega | exact Nat.le_refl _⟩, ⟨by repeat (first | (with_reducible first | exact HB.out | apply below_alloc | apply pw_below_drewN | apply below_drew1) | exact HB.out)⟩⟩
  case rest =>
    clear HC3
    try clear p2
    try clear c4
    try clear c5
    obtain ⟨kq, x18_2, rfl, HA, HJ2, HB⟩ := hcut
    cases kq with
    | zero => exact absurd HA.out (by simp [impl_Far.j0])
    | succ kj2 =>
      have H := HA.out
      clear HA
      simp only [impl_Far.j0] at H
      by_cases c7 : x18_2 = true
      · subst c7
        have H1 : (some (-1)) = some r := by rw [if_pos rfl] at H; exact H
        clear H
        have H := H1
        clear H1
        obtain rfl := Option.some.inj H
        go_wp2
        repeat (go_quiet (fail); try go_wp2)
        go_ret
        exact ⟨by first | rfl | (simp [errW_none, errW_some] <;> rfl) | (simp [*, errW_none, errW_some] <;> rfl), by repeat (first | (with_reducible first | exact HB.out | apply below_alloc | apply pw_below_drewN | apply below_drew1) | exact HB.out)⟩
      · replace c7 := Bool.eq_false_iff.mpr c7
        subst c7
        have H1 : (if 0 ≤ (wrap64 ((a0.size : Int) + 1)) then (if (wrap64 ((a0.size : Int) + 1) : Int).toNat ≤ 11728124029610 then ((some (List.replicate (wrap64 ((a0.size : Int) + 1) : Int).toNat [] : List (List Int))).bind fun y222 => (impl_Far.l0 kj2 a0 a1 y222 (y222.length : Int) 0)) else (none)) else (none)) = some r := by rw [if_neg (show ¬ (false = true) by decide)] at H; exact H
        clear H
        have H := H1
        clear H1
        obtain ⟨ji8, hji8⟩ : ∃ j_ : Int, (wrap64 ((a0.size : Int) + 1)) = j_ := ⟨_, rfl⟩
        replace H : (if 0 ≤ (ji8) then (if (ji8 : Int).toNat ≤ 11728124029610 then ((some (List.replicate (ji8 : Int).toNat [] : List (List Int))).bind fun y222 => (impl_Far.l0 kj2 a0 a1 y222 (y222.length : Int) 0)) else (none)) else (none)) = some r := by first | (rw [hji8] at H; exact H) | (simp only [hji8] at H ⊢; exact H)
        have hji8w : (IntKind.i64.wrap ((a0.size : Int) + 1)) = ji8 := (i64_w _).trans hji8
        by_cases c9 : 0 ≤ (ji8)
        · rw [if_pos c9] at H
          have c9b0 := eq_true c9
          have c9b1 : decide (0 ≤ (ji8)) = true := decide_eq_true c9
          clear c9
          by_cases c10 : (ji8 : Int).toNat ≤ 11728124029610
          · rw [if_pos c10] at H
            have c10b0 := eq_true c10
            have c10b1 : decide ((ji8 : Int).toNat ≤ 11728124029610) = true := decide_eq_true c10
            clear c10
            obtain ⟨y222, hy222⟩ : ∃ y_ : List (List Int), y_ = (List.replicate (ji8 : Int).toNat []) := ⟨_, rfl⟩
            replace H : (impl_Far.l0 kj2 a0 a1 y222 (y222.length : Int) 0) = some r := by first | (rw [hy222]; with_reducible exact H) | (have H2_ := (Option.bind_some _ _).symm.trans H; rw [hy222]; with_reducible exact H2_) | (have H2_ := (Option.bind_some _ _).symm.trans H; with_reducible exact H2_) | with_reducible exact H | (rw [hy222]; exact H) | exact H
            have Ny222 := Aside0.mk hy222
            clear hy222
            have H' := Aside0.mk H
            clear H
            go_wp2_with (first | ((with_reducible refine gate_dst (N := 22) rfl ?_); refine Kd.S_make (Kd.slice 3 (Kd.int .i64)) _ 102 rfl (N := 22) rfl 101 _ _ rfl ji8 rfl rfl Try.underlying101 (.slice none 0 0) 24 info102 rfl (by decide) (by omega) [] (ok := fun _ => True) (okp := fun _ => True) ⟨_, rfl, Kd.R_nil _ _ _ _ _⟩ (fun _ hk => hk) trivial (of_decide_eq_true (by first | (with_reducible assumption) | assumption)) (Nat.le_trans (Nat.mul_le_mul_right _ (of_decide_eq_true (by first | (with_reducible assumption) | assumption) : ji8.toNat ≤ 11728124029610)) (by omega)) (Below.refl _ _) (Nat.le_refl _) ?_; intro v223 w11 ho12 hb hg_ hnew_; clear hg_ hnew_; (first | rw [← Ny222.out] at ho12 | (simp only [Int.reduceToNat] at ho12; rw [← Ny222.out] at ho12) | (simp only [Int.toNat_natCast] at ho12; rw [← Ny222.out] at ho12)); have n0_ := Aside0.mk (Kd.S_lower ho12 (below_size (by repeat (first | (with_reducible first | exact HB.out | apply below_alloc | apply pw_below_drewN | apply below_drew1) | exact HB.out)))); have n1_ := Aside0.mk (below_step (by repeat (first | (with_reducible first | exact HB.out | apply below_alloc | apply pw_below_drewN | apply below_drew1) | exact HB.out)) hb); clear HB; have HO224 := n0_; have HB := n1_; clear n0_ n1_; clear hb ho12; obtain ⟨Ao13, co13, eo13⟩ := Kd.S_slice HO224.out; subst eo13))
            repeat (go_quiet (first | ((with_reducible refine gate_dst (N := 22) rfl ?_); refine Kd.S_make (Kd.slice 3 (Kd.int .i64)) _ 102 rfl (N := 22) rfl 101 _ _ rfl ji8 rfl rfl Try.underlying101 (.slice none 0 0) 24 info102 rfl (by decide) (by omega) [] (ok := fun _ => True) (okp := fun _ => True) ⟨_, rfl, Kd.R_nil _ _ _ _ _⟩ (fun _ hk => hk) trivial (of_decide_eq_true (by first | (with_reducible assumption) | assumption)) (Nat.le_trans (Nat.mul_le_mul_right _ (of_decide_eq_true (by first | (with_reducible assumption) | assumption) : ji8.toNat ≤ 11728124029610)) (by omega)) (Below.refl _ _) (Nat.le_refl _) ?_; intro v223 w11 ho12 hb hg_ hnew_; clear hg_ hnew_; (first | rw [← Ny222.out] at ho12 | (simp only [Int.reduceToNat] at ho12; rw [← Ny222.out] at ho12) | (simp only [Int.toNat_natCast] at ho12; rw [← Ny222.out] at ho12)); have n0_ := Aside0.mk (Kd.S_lower ho12 (below_size (by repeat (first | (with_reducible first | exact HB.out | apply below_alloc | apply pw_below_drewN | apply below_drew1) | exact HB.out)))); have n1_ := Aside0.mk (below_step (by repeat (first | (with_reducible first | exact HB.out | apply below_alloc | apply pw_below_drewN | apply below_drew1) | exact HB.out)) hb); clear HB; have HO224 := n0_; have HB := n1_; clear n0_ n1_; clear hb ho12; obtain ⟨Ao13, co13, eo13⟩ := Kd.S_slice HO224.out; subst eo13)); try go_wp2_with (first | ((with_reducible refine gate_dst (N := 22) rfl ?_); refine Kd.S_make (Kd.slice 3 (Kd.int .i64)) _ 102 rfl (N := 22) rfl 101 _ _ rfl ji8 rfl rfl Try.underlying101 (.slice none 0 0) 24 info102 rfl (by decide) (by omega) [] (ok := fun _ => True) (okp := fun _ => True) ⟨_, rfl, Kd.R_nil _ _ _ _ _⟩ (fun _ hk => hk) trivial (of_decide_eq_true (by first | (with_reducible assumption) | assumption)) (Nat.le_trans (Nat.mul_le_mul_right _ (of_decide_eq_true (by first | (with_reducible assumption) | assumption) : ji8.toNat ≤ 11728124029610)) (by omega)) (Below.refl _ _) (Nat.le_refl _) ?_; intro v223 w11 ho12 hb hg_ hnew_; clear hg_ hnew_; (first | rw [← Ny222.out] at ho12 | (simp only [Int.reduceToNat] at ho12; rw [← Ny222.out] at ho12) | (simp only [Int.toNat_natCast] at ho12; rw [← Ny222.out] at ho12)); have n0_ := Aside0.mk (Kd.S_lower ho12 (below_size (by repeat (first | (with_reducible first | exact HB.out | apply below_alloc | apply pw_below_drewN | apply below_drew1) | exact HB.out)))); have n1_ := Aside0.mk (below_step (by repeat (first | (with_reducible first | exact HB.out | apply below_alloc | apply pw_below_drewN | apply below_drew1) | exact HB.out)) hb); clear HB; have HO224 := n0_; have HB := n1_; clear n0_ n1_; clear hb ho12; obtain ⟨Ao13, co13, eo13⟩ := Kd.S_slice HO224.out; subst eo13)))
            go_loopg [25] kj2 (fun kq v25 w' => ∃ (x5_2 : List (List Int)) (x25_2 : Int), v25 = .int .i64 x25_2 ∧ Aside0 (impl_Far.l0 kq a0 a1 x5_2 (y222.length : Int) x25_2 = some r) ∧ Aside0 (kq ≤ kj2) ∧ Aside0 (Kd.S (Kd.slice 3 (Kd.int .i64)) 102 w' w.heap.size (fun _ => True) (.slice Ao13 y222.length co13) x5_2) ∧ Aside0 (Below w.heap.size w w'))
            case atStart => exact ⟨(y222), (0), (by first | rfl | (simp; done) | (simp [*]; done)), H', ⟨Nat.le_refl _⟩, ⟨by (with_reducible repeat (first | apply Kd.S_alloc | apply Kd.S_drewN | apply Kd.S_drew)); exact HO224.out⟩, ⟨by repeat (first | (with_reducible first | exact HB.out | apply below_alloc | apply pw_below_drewN | apply below_drew1) | exact HB.out)⟩⟩
            case round =>
              clear H'
              try clear c1
              try clear p2
              try clear c4
              try clear c5
              try clear p6
              try clear c7
              try clear c9
              try clear c9b0
              try clear c9b1
              try clear c10
              try clear c10b0
              try clear c10b1
              try clear p2
              obtain ⟨x5_2, x25_2, rfl, HA, HK2, HO_5, HB⟩ := hrel
              have hl5_2 := (Kd.S_reads' HO_5.out).1
              rw [hl5_2] at HO_5
              (try simp only [hl5_2])
              cases gk with
              | zero => exact absurd HA.out (by simp [impl_Far.l0])
              | succ k2 =>
                have H := HA.out
                clear HA
                simp only [impl_Far.l0] at H
                by_cases c14 : x25_2 < (y222.length : Int)
                · rw [if_pos c14] at H
                  have c14b0 : decide (x25_2 < (y222.length : Int)) = true := decide_eq_true c14
                  try have c14b8 := c14b0
                  try simp only [hl5_2] at c14b8
                  clear c14
                  obtain ⟨ji15, hji15⟩ : ∃ j_ : Int, (wrap64 ((a1.size : Int) + 1)) = j_ := ⟨_, rfl⟩
                  replace H : (if 0 ≤ (ji15) then (if (ji15 : Int).toNat ≤ 35184372088832 then (if 0 ≤ x25_2 then (if x25_2 < (x5_2.length : Int) then ((some (x5_2.set (x25_2 : Int).toNat (List.replicate (ji15 : Int).toNat 0) : List (List Int))).bind fun y228 => (if 0 < ((rd_L3 y228 x25_2).length : Int) then (impl_Far.l0 k2 a0 a1 (y228.set (x25_2 : Int).toNat ((rd_L3 y228 x25_2).set (0 : Int).toNat x25_2)) (y222.length : Int) (wrap64 (x25_2 + 1))) else (none))) else (none)) else (none)) else (none)) else (none)) = some r := by first | (rw [hji15] at H; exact H) | (simp only [hji15] at H ⊢; exact H)
                  have hji15w : (IntKind.i64.wrap ((a1.size : Int) + 1)) = ji15 := (i64_w _).trans hji15
                  by_cases c16 : 0 ≤ (ji15)
                  · rw [if_pos c16] at H
                    have c16b0 := eq_true c16
                    have c16b1 : decide (0 ≤ (ji15)) = true := decide_eq_true c16
                    clear c16
                    by_cases c17 : (ji15 : Int).toNat ≤ 35184372088832
                    · rw [if_pos c17] at H
                      have c17b0 := eq_true c17
                      have c17b1 : decide ((ji15 : Int).toNat ≤ 35184372088832) = true := decide_eq_true c17
                      clear c17
                      obtain ⟨y225, hy225⟩ : ∃ y_ : List Int, y_ = (List.replicate (ji15 : Int).toNat 0) := ⟨_, rfl⟩
                      replace H : (if 0 ≤ x25_2 then (if x25_2 < (x5_2.length : Int) then ((some (x5_2.set (x25_2 : Int).toNat y225 : List (List Int))).bind fun y228 => (if 0 < ((rd_L3 y228 x25_2).length : Int) then (impl_Far.l0 k2 a0 a1 (y228.set (x25_2 : Int).toNat ((rd_L3 y228 x25_2).set (0 : Int).toNat x25_2)) (y222.length : Int) (wrap64 (x25_2 + 1))) else (none))) else (none)) else (none)) = some r := by first | (rw [hy225]; with_reducible exact H) | (have H2_ := (Option.bind_some _ _).symm.trans H; rw [hy225]; with_reducible exact H2_) | (have H2_ := (Option.bind_some _ _).symm.trans H; with_reducible exact H2_) | with_reducible exact H | (rw [hy225]; exact H) | exact H
                      have Ny225 := Aside0.mk hy225
                      clear hy225
                      by_cases c18 : 0 ≤ x25_2
                      · rw [if_pos c18] at H
                        have c18b0 : decide (0 ≤ x25_2) = true := decide_eq_true c18
                        clear c18
                        by_cases c19 : x25_2 < (x5_2.length : Int)
                        · rw [if_pos c19] at H
                          have c19b0 : decide (x25_2 < (x5_2.length : Int)) = true := decide_eq_true c19
                          try have c19b8 := c19b0
                          try simp only [hl5_2] at c19b8
                          clear c19
                          obtain ⟨y228, hy228⟩ : ∃ y_ : List (List Int), y_ = (x5_2.set (x25_2 : Int).toNat y225) := ⟨_, rfl⟩
                          replace H : (if 0 < ((rd_L3 y228 x25_2).length : Int) then (impl_Far.l0 k2 a0 a1 (y228.set (x25_2 : Int).toNat ((rd_L3 y228 x25_2).set (0 : Int).toNat x25_2)) (y222.length : Int) (wrap64 (x25_2 + 1))) else (none)) = some r := by first | (rw [hy228]; with_reducible exact H) | (have H2_ := (Option.bind_some _ _).symm.trans H; rw [hy228]; with_reducible exact H2_) | (have H2_ := (Option.bind_some _ _).symm.trans H; with_reducible exact H2_) | with_reducible exact H | (rw [hy228]; exact H) | exact H
                          have Ny228 := Aside0.mk hy228
                          clear hy228
                          by_cases c21 : 0 < ((rd_L3 y228 x25_2).length : Int)
                          · rw [if_pos c21] at H
                            have c21b0 : decide (0 < ((rd_L3 y228 x25_2).length : Int)) = true := decide_eq_true c21
                            try have c21b8 := c21b0
                            try simp only [hl5_2] at c21b8
                            have c21b1 : decide (0 < (rd_L3 y228 x25_2).length) = true := decide_eq_true (by omega)
                            clear c21
                            obtain ⟨y230, hy230⟩ : ∃ y_ : List Int, y_ = ((rd_L3 y228 x25_2).set (0 : Int).toNat x25_2) := ⟨_, rfl⟩
                            replace H : (impl_Far.l0 k2 a0 a1 (y228.set (x25_2 : Int).toNat y230) (y222.length : Int) (wrap64 (x25_2 + 1))) = some r := by first | (rw [hy230]; with_reducible exact H) | (have H2_ := (Option.bind_some _ _).symm.trans H; rw [hy230]; with_reducible exact H2_) | (have H2_ := (Option.bind_some _ _).symm.trans H; with_reducible exact H2_) | with_reducible exact H | (rw [hy230]; exact H) | exact H
                            have Ny230 := Aside0.mk hy230
                            clear hy230
                            obtain ⟨y232, hy232⟩ : ∃ y_ : List (List Int), y_ = (y228.set (x25_2 : Int).toNat y230) := ⟨_, rfl⟩
                            replace H : (impl_Far.l0 k2 a0 a1 y232 (y222.length : Int) (wrap64 (x25_2 + 1))) = some r := by first | (rw [hy232]; with_reducible exact H) | (have H2_ := (Option.bind_some _ _).symm.trans H; rw [hy232]; with_reducible exact H2_) | (have H2_ := (Option.bind_some _ _).symm.trans H; with_reducible exact H2_) | with_reducible exact H | (rw [hy232]; exact H) | exact H
                            have Ny232 := Aside0.mk hy232
                            clear hy232
                            have H' := Aside0.mk H
                            clear H
                            go_wp2_with (first | ((with_reducible refine gate_dst (N := 33) rfl ?_); refine Kd.R_make (Kd.int .i64) _ 3 rfl (N := 33) rfl 102 _ _ rfl ji15 rfl rfl Try.underlying102 (.int .i64 0) 8 info3 rfl (by decide) (by omega) 0 (ok := fun _ => True) (okp := fun _ => True) rfl (fun _ hk => hk) trivial (of_decide_eq_true (by first | (with_reducible assumption) | assumption)) (Nat.le_trans (Nat.mul_le_mul_right _ (of_decide_eq_true (by first | (with_reducible assumption) | assumption) : ji15.toNat ≤ 35184372088832)) (by omega)) (Below.refl _ _) (Nat.le_refl _) ?_; intro v226 w23 ho24 hb hg_ hnew_; clear hg_ hnew_; (first | rw [← Ny225.out] at ho24 | (simp only [Int.reduceToNat] at ho24; rw [← Ny225.out] at ho24) | (simp only [Int.toNat_natCast] at ho24; rw [← Ny225.out] at ho24)); have n0_ := Aside0.mk (Kd.S_elder' (by (with_reducible repeat (first | apply Kd.S_alloc | apply Kd.S_drewN | apply Kd.S_drew)); exact HO_5.out) (Kd.R_base ho24) hb); have n1_ := Aside0.mk (Kd.R_lower ho24 (below_size (by repeat (first | (with_reducible first | exact HB.out | apply below_alloc | apply pw_below_drewN | apply below_drew1) | exact HB.out)))); have n2_ := Aside0.mk (below_step (by repeat (first | (with_reducible first | exact HB.out | apply below_alloc | apply pw_below_drewN | apply below_drew1) | exact HB.out)) hb); clear HO_5; clear HB; have HO_5 := n0_; have HO227 := n1_; have HB := n2_; clear n0_ n1_ n2_; clear hb ho24; have p20 : 0 ≤ (x25_2 : Int) := of_decide_eq_true (by first | (with_reducible assumption) | assumption); have q20 : (x25_2 : Int) < ((x5_2.length : Int) : Int) := of_decide_eq_true (by first | (with_reducible assumption) | assumption); obtain ⟨go20, co20, eo20, gb20, gl20, cl20, HG20⟩ := Kd.S_form HO_5.out (by omega); (first | cases eo20 | (injection eo20 with ea_ en_ ec_; (first | subst ea_ | (injection ea_ with ea_; subst ea_)); subst ec_; clear en_)); have GB20 := Aside0.mk gb20; have GG20 := Aside0.mk HG20; clear gb20 gl20 HG20; obtain ⟨_, ce20, hcl20, hM20, hcc20, hfr20, _, _⟩ := Kd.S_elem HO_5.out [] (x25_2 : Int) p20 q20; obtain ⟨ve20_0, rfl, ge20_0⟩ := hM20; have hx20_0 := hcc20 0 _ rfl; have hf20_0 := hfr20 0; (try simp only [show ((Kd.slice 3 (Kd.int .i64))).sz = 1 from rfl, Nat.mul_one, Nat.add_zero] at hx20_0); (try simp only [show ((Kd.slice 3 (Kd.int .i64))).sz = 1 from rfl, Nat.mul_one, Nat.add_zero] at hf20_0); clear hcl20 hcc20 hfr20; (try clear hM20); replace p20 := eq_true p20; replace q20 := eq_true q20; have n_ := Aside0.mk (Kd.S_mono (ok' := (fun k_ => some k_ ≠ (v226 : Value).ownBlock)) HO_5.out (fun k_ hk => hk.2)); clear HO_5; have HO_5 := n_; clear n_; have HX25 := Aside0.mk (show Kd.S (Kd.slice 3 (Kd.int .i64)) 102 w23 w.heap.size (fun k_ => ((fun _ => True)) k_ ∧ ¬ ((fun k_ => some k_ = (v226 : Value).ownBlock)) k_) (.slice (some ⟨go20, 0, none⟩) x5_2.length co13) x5_2 from (by (with_reducible repeat (first | apply Kd.S_alloc | apply Kd.S_drewN | apply Kd.S_drew)); exact Kd.S_mono HO_5.out (fun k_ hk => ⟨trivial, fun e_ => hk e_⟩))); obtain ⟨oki25, ce25, hcl25, hM25, hcc25, hfr25, hoki25, hH25⟩ := Kd.S_elem HX25.out [] (x25_2 : Int) (of_decide_eq_true (by first | (with_reducible assumption) | assumption)) (by have h_ : (x25_2 : Int) < ((x5_2.length : Int) : Int) := of_decide_eq_true (by first | (with_reducible assumption) | assumption); first | exact h_ | (have e_ := (Kd.S_reads' HO_5.out).1; omega) | simpa using h_); obtain ⟨ve25_0, rfl, ge25_0⟩ := hM25; have HP25 := Kd.S_seg hH25 (of_decide_eq_true (by first | (with_reducible assumption) | assumption)) (by have h_ : (x25_2 : Int) < ((x5_2.length : Int) : Int) := of_decide_eq_true (by first | (with_reducible assumption) | assumption); first | exact h_ | (have e_ := (Kd.S_reads' HO_5.out).1; omega) | simpa using h_) (seg := [v226]) (j := 0) (show 1 ≤ 1 from by decide) (x' := y225) (Kd.M_row (Kd.R_mono (Kd.R_tight rfl (Kd.R_mono (ok' := fun k_ => ((fun _ => True)) k_ ∧ k_ ≠ go20) (Kd.R_apart' (HO227.out) (Kd.S_typed HO_5.out) (by decide)) (fun k_ hk => ⟨trivial, fun e_ => (hk.2) (by rw [e_]; rfl)⟩))) (fun _ h_ => Or.inr (h_)))) (fun _ hk => hk) (fun k_ hk_ => ((Kd.R_mono (ok' := fun k_ => ((fun _ => True)) k_ ∧ k_ ≠ go20) (Kd.R_apart' (HO227.out) (Kd.S_typed HO_5.out) (by decide)) (fun k_ hk => ⟨trivial, fun e_ => (hk.2) (by rw [e_]; rfl)⟩))).1 k_ hk_.symm); have hx25_0 := hcc25 0 _ rfl; (try simp only [show ((Kd.slice 3 (Kd.int .i64))).sz = 1 from rfl, Nat.mul_one, Nat.add_zero] at hx25_0); have hf25_0 := hfr25 0; (try simp only [show ((Kd.slice 3 (Kd.int .i64))).sz = 1 from rfl, Nat.mul_one, Nat.add_zero] at hf25_0); clear hcl25 hcc25 hfr25 hoki25 hH25; (try clear hM25); (try simp only [show ((Kd.slice 3 (Kd.int .i64))).sz = 1 from rfl, Nat.mul_one, Nat.add_zero] at HP25)) | ((with_reducible refine gate_store (t := 102) (p := 34) rfl ?_); (try (rw [drewN_self w23]; generalize hq_ : World.drewN w23 _ = w23; have n0_ := Aside0.mk (Kd.S_at hq_ HO_5.out); have n1_ := Aside0.mk (below_at hq_ HB.out); clear hq_ HO_5 HB; have HO_5 := n0_; have HB := n1_; clear n0_ n1_; (try (have n_ := Aside0.mk (Kd.S_mono (ok' := (fun k_ => some k_ ≠ (v226 : Value).ownBlock)) HO_5.out (fun k_ hk => hk.2)); clear HO_5; have HO_5 := n_; clear n_)); (try (have HX25 := Aside0.mk (show Kd.S (Kd.slice 3 (Kd.int .i64)) 102 w23 w.heap.size (fun k_ => ((fun _ => True)) k_ ∧ ¬ ((fun k_ => some k_ = (v226 : Value).ownBlock)) k_) (.slice (some ⟨go20, 0, none⟩) x5_2.length co13) x5_2 from (by (with_reducible repeat (first | apply Kd.S_alloc | apply Kd.S_drewN | apply Kd.S_drew)); exact Kd.S_mono HO_5.out (fun k_ hk => ⟨trivial, fun e_ => hk e_⟩))))); (try (obtain ⟨oki25, ce25, hcl25, hM25, hcc25, hfr25, hoki25, hH25⟩ := Kd.S_elem HX25.out [] (x25_2 : Int) (of_decide_eq_true (by first | (with_reducible assumption) | assumption)) (by have h_ : (x25_2 : Int) < ((x5_2.length : Int) : Int) := of_decide_eq_true (by first | (with_reducible assumption) | assumption); first | exact h_ | (have e_ := (Kd.S_reads' HO_5.out).1; omega) | simpa using h_))); (try (obtain ⟨ve25_0, rfl, ge25_0⟩ := hM25)); (try (have HP25 := Kd.S_seg hH25 (of_decide_eq_true (by first | (with_reducible assumption) | assumption)) (by have h_ : (x25_2 : Int) < ((x5_2.length : Int) : Int) := of_decide_eq_true (by first | (with_reducible assumption) | assumption); first | exact h_ | (have e_ := (Kd.S_reads' HO_5.out).1; omega) | simpa using h_) (seg := [v226]) (j := 0) (show 1 ≤ 1 from by decide) (x' := y225) (Kd.M_row (Kd.R_mono (Kd.R_tight rfl (Kd.R_mono (ok' := fun k_ => ((fun _ => True)) k_ ∧ k_ ≠ go20) (Kd.R_apart' (HO227.out) (Kd.S_typed HO_5.out) (by decide)) (fun k_ hk => ⟨trivial, fun e_ => (hk.2) (by rw [e_]; rfl)⟩))) (fun _ h_ => Or.inr (h_)))) (fun _ hk => hk) (fun k_ hk_ => ((Kd.R_mono (ok' := fun k_ => ((fun _ => True)) k_ ∧ k_ ≠ go20) (Kd.R_apart' (HO227.out) (Kd.S_typed HO_5.out) (by decide)) (fun k_ hk => ⟨trivial, fun e_ => (hk.2) (by rw [e_]; rfl)⟩))).1 k_ hk_.symm))); (try (have hx25_0 := hcc25 0 _ rfl)); (try (try simp only [show ((Kd.slice 3 (Kd.int .i64))).sz = 1 from rfl, Nat.mul_one, Nat.add_zero] at hx25_0)); (try (have hf25_0 := hfr25 0)); (try (try simp only [show ((Kd.slice 3 (Kd.int .i64))).sz = 1 from rfl, Nat.mul_one, Nat.add_zero] at hf25_0)); (try (clear hcl25 hcc25 hfr25 hoki25 hH25; (try clear hM25))); (try (try simp only [show ((Kd.slice 3 (Kd.int .i64))).sz = 1 from rfl, Nat.mul_one, Nat.add_zero] at HP25)))); have hcs_ := (by obtain ⟨A_, c_, e_⟩ := Kd.R_slice HO227.out; rw [e_]; rfl : Value.cells v226 = #[v226]); unfold Value.cells at hcs_; have hst_ := (by obtain ⟨A_, c_, e_⟩ := Kd.R_slice HO227.out; intro a_ w_ m_; rw [e_]; exact run_store_slice _ _ _ _ _ _ _ : ∀ (a_ : Addr) (w_ : World) (m_ : Mode), (store a_ v226 m_).run Try.prog w_ = stored Try.prog w_ a_ v226 m_); refine store_event (t := 102) (p := 34) (v := ?vo_w26) (w1 := (w23.setCell ⟨go20, (x25_2 : Int).toNat, none⟩ (v226))) ?hg ?ho ?hn ?hr ?_; (case ho => rfl); (case hg => rfl); (case hn => rfl); (case hr => first | (go_simp; done) | (go_simp; rfl)); intro w26 hw; have hg : w23.grownBy w26 (some go20) := (by rw [hw]; exact HP25.2); have hp_ : Kd.S (Kd.slice 3 (Kd.int .i64)) 102 w26 w.heap.size (fun _ => True) (.slice (some ⟨go20, 0, none⟩) x5_2.length co13) y228 := (by rw [hw, Ny228.out]; exact HP25.1); clear HP25; have n0_ := Aside0.mk (hp_); have n1_ := Aside0.mk ((by rw [hw]; exact below_set (HB.out) GB20.out : Below w.heap.size w w26)); clear HO_5; clear HB; clear HO227; have HO_5 := n0_; have HB := n1_; clear n0_ n1_; clear hg hw hp_; have p229 : 0 ≤ (x25_2 : Int) := of_decide_eq_true (by first | (with_reducible assumption) | assumption); have q229 : x25_2 < (y228.length : Int) := (by have h_ : (x25_2 : Int) < ((x5_2.length : Int) : Int) := of_decide_eq_true (by first | (with_reducible assumption) | assumption); first | (have e_ := (Kd.S_reads' HO_5.out).1; omega) | simpa only [Ny228.out, List.length_set] using h_); have ql229 : ((x25_2 : Int) < ((x5_2.length : Int) : Int)) = True := eq_true (of_decide_eq_true (by first | (with_reducible assumption) | assumption)); obtain ⟨ad229, A229_0, c229_0, e229, hx229_0, hl229_0, hi229_0⟩ := at_L3 (Kd.S_reads' HO_5.out).2.2 x25_2 p229 q229; obtain rfl : (⟨go20, 0, none⟩ : Addr) = ad229 := (by injection e229); obtain ⟨ce229, hce229, hMe229, hcc229⟩ := Kd.S_get HO_5.out [] x25_2 p229 (by first | exact q229 | exact of_decide_eq_true (by first | (with_reducible assumption) | assumption) | (have e_ := (Kd.S_reads' HO_5.out).1; omega)); obtain ⟨ve229_0, rfl, ge229_0⟩ := hMe229; have hv229_0 := hcc229 0 _ rfl; rw [Nat.add_zero, show ((Kd.slice 3 (Kd.int .i64))).sz = 1 from rfl, Nat.mul_one] at hv229_0; replace hv229_0 := Option.some.inj (hv229_0.symm.trans hx229_0); rw [hv229_0] at ge229_0; have HL229_0 := Aside0.mk (show Kd.R (Kd.int .i64) 3 _ _ _ _ (rd_L3 y228 x25_2) from ge229_0); clear hv229_0 ge229_0; have HX229_0 := Aside0.mk hx229_0; clear hcc229 hce229; (first | simp only [add_plain] at hx229_0 | simp only [add_at] at hx229_0 | simp only [Addr.add, Nat.zero_add] at hx229_0 | skip); have HR229_0 := Aside0.mk hi229_0; have HC229_0 := Aside0.mk hl229_0; clear hi229_0 hl229_0; replace p229 := eq_true p229; replace q229 := eq_true q229; have p22 : 0 ≤ (0 : Int) := (by omega); have q22 : (0 : Int) < (((rd_L3 y228 x25_2).length : Int) : Int) := of_decide_eq_true (by first | (with_reducible assumption) | assumption); have qi22 : (0 < (rd_L3 y228 x25_2).length) = True := eq_true (by omega); obtain ⟨go22, co22, eo22, gb22, gl22, cl22, HG22⟩ := Kd.R_form HL229_0.out (by omega); (first | cases eo22 | (injection eo22 with ea_ en_ ec_; (first | subst ea_ | (injection ea_ with ea_; subst ea_)); subst ec_; clear en_)); have GB22 := Aside0.mk gb22; have GG22 := Aside0.mk HG22; clear gb22 gl22 HG22; obtain ⟨hx22_0, hf22_0⟩ := Kd.R_celln 0 HL229_0.out (0 : Int) p22 q22; (try rw [show ((0 : Int)).toNat = 0 from rfl] at hx22_0); (try simp only [Nat.reduceMul, Nat.zero_mul, Nat.zero_add, Nat.reduceAdd] at hx22_0); (try rw [show ((0 : Int)).toNat = 0 from rfl] at hf22_0); (try simp only [Nat.reduceMul, Nat.zero_mul, Nat.zero_add, Nat.reduceAdd] at hf22_0); replace p22 := eq_true p22; replace q22 := eq_true q22; have hq27 : (x25_2 : Int) < (y228.length : Int) := (by have h_ : (x25_2 : Int) < ((x5_2.length : Int) : Int) := of_decide_eq_true (by first | (with_reducible assumption) | assumption); first | exact h_ | (have e_ := (Kd.S_reads' HO_5.out).1; omega) | simpa only [Ny228.out, List.length_set] using h_); obtain ⟨oki27, ce27, hcl27, hM27, hcc27, hok27, hbk27⟩ := Kd.S_borrow HO_5.out [] (x25_2 : Int) (of_decide_eq_true (by first | (with_reducible assumption) | assumption)) (by first | exact hq27 | exact of_decide_eq_true (by first | (with_reducible assumption) | assumption) | (have e_ := (Kd.S_reads' HO_5.out).1; omega)); obtain ⟨ve27_0, rfl, ge27_0⟩ := hM27; have hv27 := hcc27 0 _ rfl; rw [Nat.add_zero, show ((Kd.slice 3 (Kd.int .i64))).sz = 1 from rfl, Nat.mul_one] at hv27; replace hv27 := Option.some.inj (hv27.symm.trans HX229_0.out); subst hv27; clear hcc27 hcl27; replace ge27_0 := (show Kd.R (Kd.int .i64) 3 _ _ _ _ (rd_L3 y228 x25_2) from ge27_0); have HP27 := Kd.R_putg ge27_0 (0 : Int) x25_2) | ((with_reducible refine gate_store (t := 3) (p := 40) rfl ?_); (try (rw [drewN_self w26]; generalize hq_ : World.drewN w26 _ = w26; have n0_ := Aside0.mk (Kd.S_at hq_ HO_5.out); have n1_ := Aside0.mk (Kd.R_at hq_ HL256.out); have n2_ := Aside0.mk (below_at hq_ HB.out); clear hq_ HO_5 HL256 HB; have HO_5 := n0_; have HL256 := n1_; have HB := n2_; clear n0_ n1_ n2_; (try (have hq27 : (x25_2 : Int) < (y228.length : Int) := (by have h_ : (x25_2 : Int) < ((x5_2.length : Int) : Int) := of_decide_eq_true (by first | (with_reducible assumption) | assumption); first | exact h_ | (have e_ := (Kd.S_reads' HO_5.out).1; omega) | simpa only [Ny228.out, List.length_set] using h_))); (try (obtain ⟨oki27, ce27, hcl27, hM27, hcc27, hok27, hbk27⟩ := Kd.S_borrow HO_5.out [] (x25_2 : Int) (of_decide_eq_true (by first | (with_reducible assumption) | assumption)) hq27)); (try (obtain ⟨ve27_0, rfl, ge27_0⟩ := hM27)); (try (have hv27 := hcc27 0 _ rfl)); (try (rw [Nat.add_zero, show ((Kd.slice 3 (Kd.int .i64))).sz = 1 from rfl, Nat.mul_one] at hv27)); (try (replace hv27 := Option.some.inj (hv27.symm.trans HX229_0.out))); (try (subst hv27)); (try (clear hcc27 hcl27)); (try (replace ge27_0 := (show Kd.R (Kd.int .i64) 3 _ _ _ _ (rd_L3 y228 x25_2) from ge27_0))); (try (have HP27 := Kd.R_putg ge27_0 (0 : Int) x25_2)))); refine store_event (t := 3) (p := 40) (v := ?vo_w28) (w1 := (w26.setCell ⟨go22, 0, none⟩ (.int .i64 x25_2))) ?hg ?ho ?hn ?hr ?_; (case ho => rfl); (case hg => rfl); (case hn => rfl); (case hr => first | (go_simp; done) | (go_simp; rfl)); intro w28 hw; have hg : w26.grownBy w28 (some go22) := (by rw [hw]; exact HP27.2); have hz_ : Kd.R (Kd.int .i64) 3 w28 w.heap.size oki27 (.slice (some ⟨go22, 0, none⟩) (rd_L3 y228 x25_2).length c229_0) y230 := (by rw [hw, Ny230.out]; exact HP27.1); have hp_ : Kd.S (Kd.slice 3 (Kd.int .i64)) 102 w28 w.heap.size (fun _ => True) (.slice (some ⟨go20, 0, none⟩) x5_2.length co13) y232 := (by rw [Ny232.out]; exact hbk27 hg (fun k_ e_ => by injection e_ with e_; subst e_; exact ge27_0.1 _ rfl) (Kd.M_row hz_)); have hm_ := Kd.R_mono hz_ hok27; clear HP27 hbk27; have n0_ := Aside0.mk (hp_); have n1_ := Aside0.mk ((by rw [hw]; exact below_set (HB.out) GB22.out : Below w.heap.size w w28)); have n2_ := Aside0.mk (hm_); have n3_ := Aside0.mk ((Kd.R_reads' hm_).2.1); clear HO_5; clear HB; clear HL229_0; have HO_5 := n0_; have HB := n1_; have HL256 := n2_; have HC231 := n3_; clear n0_ n1_ n2_ n3_; clear hg hw hp_ hz_ hm_ hok27))
                            repeat (go_quiet (first | ((with_reducible refine gate_dst (N := 33) rfl ?_); refine Kd.R_make (Kd.int .i64) _ 3 rfl (N := 33) rfl 102 _ _ rfl ji15 rfl rfl Try.underlying102 (.int .i64 0) 8 info3 rfl (by decide) (by omega) 0 (ok := fun _ => True) (okp := fun _ => True) rfl (fun _ hk => hk) trivial (of_decide_eq_true (by first | (with_reducible assumption) | assumption)) (Nat.le_trans (Nat.mul_le_mul_right _ (of_decide_eq_true (by first | (with_reducible assumption) | assumption) : ji15.toNat ≤ 35184372088832)) (by omega)) (Below.refl _ _) (Nat.le_refl _) ?_; intro v226 w23 ho24 hb hg_ hnew_; clear hg_ hnew_; (first | rw [← Ny225.out] at ho24 | (simp only [Int.reduceToNat] at ho24; rw [← Ny225.out] at ho24) | (simp only [Int.toNat_natCast] at ho24; rw [← Ny225.out] at ho24)); have n0_ := Aside0.mk (Kd.S_elder' (by (with_reducible repeat (first | apply Kd.S_alloc | apply Kd.S_drewN | apply Kd.S_drew)); exact HO_5.out) (Kd.R_base ho24) hb); have n1_ := Aside0.mk (Kd.R_lower ho24 (below_size (by repeat (first | (with_reducible first | exact HB.out | apply below_alloc | apply pw_below_drewN | apply below_drew1) | exact HB.out)))); have n2_ := Aside0.mk (below_step (by repeat (first | (with_reducible first | exact HB.out | apply below_alloc | apply pw_below_drewN | apply below_drew1) | exact HB.out)) hb); clear HO_5; clear HB; have HO_5 := n0_; have HO227 := n1_; have HB := n2_; clear n0_ n1_ n2_; clear hb ho24; have p20 : 0 ≤ (x25_2 : Int) := of_decide_eq_true (by first | (with_reducible assumption) | assumption); have q20 : (x25_2 : Int) < ((x5_2.length : Int) : Int) := of_decide_eq_true (by first | (with_reducible assumption) | assumption); obtain ⟨go20, co20, eo20, gb20, gl20, cl20, HG20⟩ := Kd.S_form HO_5.out (by omega); (first | cases eo20 | (injection eo20 with ea_ en_ ec_; (first | subst ea_ | (injection ea_ with ea_; subst ea_)); subst ec_; clear en_)); have GB20 := Aside0.mk gb20; have GG20 := Aside0.mk HG20; clear gb20 gl20 HG20; obtain ⟨_, ce20, hcl20, hM20, hcc20, hfr20, _, _⟩ := Kd.S_elem HO_5.out [] (x25_2 : Int) p20 q20; obtain ⟨ve20_0, rfl, ge20_0⟩ := hM20; have hx20_0 := hcc20 0 _ rfl; have hf20_0 := hfr20 0; (try simp only [show ((Kd.slice 3 (Kd.int .i64))).sz = 1 from rfl, Nat.mul_one, Nat.add_zero] at hx20_0); (try simp only [show ((Kd.slice 3 (Kd.int .i64))).sz = 1 from rfl, Nat.mul_one, Nat.add_zero] at hf20_0); clear hcl20 hcc20 hfr20; (try clear hM20); replace p20 := eq_true p20; replace q20 := eq_true q20; have n_ := Aside0.mk (Kd.S_mono (ok' := (fun k_ => some k_ ≠ (v226 : Value).ownBlock)) HO_5.out (fun k_ hk => hk.2)); clear HO_5; have HO_5 := n_; clear n_; have HX25 := Aside0.mk (show Kd.S (Kd.slice 3 (Kd.int .i64)) 102 w23 w.heap.size (fun k_ => ((fun _ => True)) k_ ∧ ¬ ((fun k_ => some k_ = (v226 : Value).ownBlock)) k_) (.slice (some ⟨go20, 0, none⟩) x5_2.length co13) x5_2 from (by (with_reducible repeat (first | apply Kd.S_alloc | apply Kd.S_drewN | apply Kd.S_drew)); exact Kd.S_mono HO_5.out (fun k_ hk => ⟨trivial, fun e_ => hk e_⟩))); obtain ⟨oki25, ce25, hcl25, hM25, hcc25, hfr25, hoki25, hH25⟩ := Kd.S_elem HX25.out [] (x25_2 : Int) (of_decide_eq_true (by first | (with_reducible assumption) | assumption)) (by have h_ : (x25_2 : Int) < ((x5_2.length : Int) : Int) := of_decide_eq_true (by first | (with_reducible assumption) | assumption); first | exact h_ | (have e_ := (Kd.S_reads' HO_5.out).1; omega) | simpa using h_); obtain ⟨ve25_0, rfl, ge25_0⟩ := hM25; have HP25 := Kd.S_seg hH25 (of_decide_eq_true (by first | (with_reducible assumption) | assumption)) (by have h_ : (x25_2 : Int) < ((x5_2.length : Int) : Int) := of_decide_eq_true (by first | (with_reducible assumption) | assumption); first | exact h_ | (have e_ := (Kd.S_reads' HO_5.out).1; omega) | simpa using h_) (seg := [v226]) (j := 0) (show 1 ≤ 1 from by decide) (x' := y225) (Kd.M_row (Kd.R_mono (Kd.R_tight rfl (Kd.R_mono (ok' := fun k_ => ((fun _ => True)) k_ ∧ k_ ≠ go20) (Kd.R_apart' (HO227.out) (Kd.S_typed HO_5.out) (by decide)) (fun k_ hk => ⟨trivial, fun e_ => (hk.2) (by rw [e_]; rfl)⟩))) (fun _ h_ => Or.inr (h_)))) (fun _ hk => hk) (fun k_ hk_ => ((Kd.R_mono (ok' := fun k_ => ((fun _ => True)) k_ ∧ k_ ≠ go20) (Kd.R_apart' (HO227.out) (Kd.S_typed HO_5.out) (by decide)) (fun k_ hk => ⟨trivial, fun e_ => (hk.2) (by rw [e_]; rfl)⟩))).1 k_ hk_.symm); have hx25_0 := hcc25 0 _ rfl; (try simp only [show ((Kd.slice 3 (Kd.int .i64))).sz = 1 from rfl, Nat.mul_one, Nat.add_zero] at hx25_0); have hf25_0 := hfr25 0; (try simp only [show ((Kd.slice 3 (Kd.int .i64))).sz = 1 from rfl, Nat.mul_one, Nat.add_zero] at hf25_0); clear hcl25 hcc25 hfr25 hoki25 hH25; (try clear hM25); (try simp only [show ((Kd.slice 3 (Kd.int .i64))).sz = 1 from rfl, Nat.mul_one, Nat.add_zero] at HP25)) | ((with_reducible refine gate_store (t := 102) (p := 34) rfl ?_); (try (rw [drewN_self w23]; generalize hq_ : World.drewN w23 _ = w23; have n0_ := Aside0.mk (Kd.S_at hq_ HO_5.out); have n1_ := Aside0.mk (below_at hq_ HB.out); clear hq_ HO_5 HB; have HO_5 := n0_; have HB := n1_; clear n0_ n1_; (try (have n_ := Aside0.mk (Kd.S_mono (ok' := (fun k_ => some k_ ≠ (v226 : Value).ownBlock)) HO_5.out (fun k_ hk => hk.2)); clear HO_5; have HO_5 := n_; clear n_)); (try (have HX25 := Aside0.mk (show Kd.S (Kd.slice 3 (Kd.int .i64)) 102 w23 w.heap.size (fun k_ => ((fun _ => True)) k_ ∧ ¬ ((fun k_ => some k_ = (v226 : Value).ownBlock)) k_) (.slice (some ⟨go20, 0, none⟩) x5_2.length co13) x5_2 from (by (with_reducible repeat (first | apply Kd.S_alloc | apply Kd.S_drewN | apply Kd.S_drew)); exact Kd.S_mono HO_5.out (fun k_ hk => ⟨trivial, fun e_ => hk e_⟩))))); (try (obtain ⟨oki25, ce25, hcl25, hM25, hcc25, hfr25, hoki25, hH25⟩ := Kd.S_elem HX25.out [] (x25_2 : Int) (of_decide_eq_true (by first | (with_reducible assumption) | assumption)) (by have h_ : (x25_2 : Int) < ((x5_2.length : Int) : Int) := of_decide_eq_true (by first | (with_reducible assumption) | assumption); first | exact h_ | (have e_ := (Kd.S_reads' HO_5.out).1; omega) | simpa using h_))); (try (obtain ⟨ve25_0, rfl, ge25_0⟩ := hM25)); (try (have HP25 := Kd.S_seg hH25 (of_decide_eq_true (by first | (with_reducible assumption) | assumption)) (by have h_ : (x25_2 : Int) < ((x5_2.length : Int) : Int) := of_decide_eq_true (by first | (with_reducible assumption) | assumption); first | exact h_ | (have e_ := (Kd.S_reads' HO_5.out).1; omega) | simpa using h_) (seg := [v226]) (j := 0) (show 1 ≤ 1 from by decide) (x' := y225) (Kd.M_row (Kd.R_mono (Kd.R_tight rfl (Kd.R_mono (ok' := fun k_ => ((fun _ => True)) k_ ∧ k_ ≠ go20) (Kd.R_apart' (HO227.out) (Kd.S_typed HO_5.out) (by decide)) (fun k_ hk => ⟨trivial, fun e_ => (hk.2) (by rw [e_]; rfl)⟩))) (fun _ h_ => Or.inr (h_)))) (fun _ hk => hk) (fun k_ hk_ => ((Kd.R_mono (ok' := fun k_ => ((fun _ => True)) k_ ∧ k_ ≠ go20) (Kd.R_apart' (HO227.out) (Kd.S_typed HO_5.out) (by decide)) (fun k_ hk => ⟨trivial, fun e_ => (hk.2) (by rw [e_]; rfl)⟩))).1 k_ hk_.symm))); (try (have hx25_0 := hcc25 0 _ rfl)); (try (try simp only [show ((Kd.slice 3 (Kd.int .i64))).sz = 1 from rfl, Nat.mul_one, Nat.add_zero] at hx25_0)); (try (have hf25_0 := hfr25 0)); (try (try simp only [show ((Kd.slice 3 (Kd.int .i64))).sz = 1 from rfl, Nat.mul_one, Nat.add_zero] at hf25_0)); (try (clear hcl25 hcc25 hfr25 hoki25 hH25; (try clear hM25))); (try (try simp only [show ((Kd.slice 3 (Kd.int .i64))).sz = 1 from rfl, Nat.mul_one, Nat.add_zero] at HP25)))); have hcs_ := (by obtain ⟨A_, c_, e_⟩ := Kd.R_slice HO227.out; rw [e_]; rfl : Value.cells v226 = #[v226]); unfold Value.cells at hcs_; have hst_ := (by obtain ⟨A_, c_, e_⟩ := Kd.R_slice HO227.out; intro a_ w_ m_; rw [e_]; exact run_store_slice _ _ _ _ _ _ _ : ∀ (a_ : Addr) (w_ : World) (m_ : Mode), (store a_ v226 m_).run Try.prog w_ = stored Try.prog w_ a_ v226 m_); refine store_event (t := 102) (p := 34) (v := ?vo_w26) (w1 := (w23.setCell ⟨go20, (x25_2 : Int).toNat, none⟩ (v226))) ?hg ?ho ?hn ?hr ?_; (case ho => rfl); (case hg => rfl); (case hn => rfl); (case hr => first | (go_simp; done) | (go_simp; rfl)); intro w26 hw; have hg : w23.grownBy w26 (some go20) := (by rw [hw]; exact HP25.2); have hp_ : Kd.S (Kd.slice 3 (Kd.int .i64)) 102 w26 w.heap.size (fun _ => True) (.slice (some ⟨go20, 0, none⟩) x5_2.length co13) y228 := (by rw [hw, Ny228.out]; exact HP25.1); clear HP25; have n0_ := Aside0.mk (hp_); have n1_ := Aside0.mk ((by rw [hw]; exact below_set (HB.out) GB20.out : Below w.heap.size w w26)); clear HO_5; clear HB; clear HO227; have HO_5 := n0_; have HB := n1_; clear n0_ n1_; clear hg hw hp_; have p229 : 0 ≤ (x25_2 : Int) := of_decide_eq_true (by first | (with_reducible assumption) | assumption); have q229 : x25_2 < (y228.length : Int) := (by have h_ : (x25_2 : Int) < ((x5_2.length : Int) : Int) := of_decide_eq_true (by first | (with_reducible assumption) | assumption); first | (have e_ := (Kd.S_reads' HO_5.out).1; omega) | simpa only [Ny228.out, List.length_set] using h_); have ql229 : ((x25_2 : Int) < ((x5_2.length : Int) : Int)) = True := eq_true (of_decide_eq_true (by first | (with_reducible assumption) | assumption)); obtain ⟨ad229, A229_0, c229_0, e229, hx229_0, hl229_0, hi229_0⟩ := at_L3 (Kd.S_reads' HO_5.out).2.2 x25_2 p229 q229; obtain rfl : (⟨go20, 0, none⟩ : Addr) = ad229 := (by injection e229); obtain ⟨ce229, hce229, hMe229, hcc229⟩ := Kd.S_get HO_5.out [] x25_2 p229 (by first | exact q229 | exact of_decide_eq_true (by first | (with_reducible assumption) | assumption) | (have e_ := (Kd.S_reads' HO_5.out).1; omega)); obtain ⟨ve229_0, rfl, ge229_0⟩ := hMe229; have hv229_0 := hcc229 0 _ rfl; rw [Nat.add_zero, show ((Kd.slice 3 (Kd.int .i64))).sz = 1 from rfl, Nat.mul_one] at hv229_0; replace hv229_0 := Option.some.inj (hv229_0.symm.trans hx229_0); rw [hv229_0] at ge229_0; have HL229_0 := Aside0.mk (show Kd.R (Kd.int .i64) 3 _ _ _ _ (rd_L3 y228 x25_2) from ge229_0); clear hv229_0 ge229_0; have HX229_0 := Aside0.mk hx229_0; clear hcc229 hce229; (first | simp only [add_plain] at hx229_0 | simp only [add_at] at hx229_0 | simp only [Addr.add, Nat.zero_add] at hx229_0 | skip); have HR229_0 := Aside0.mk hi229_0; have HC229_0 := Aside0.mk hl229_0; clear hi229_0 hl229_0; replace p229 := eq_true p229; replace q229 := eq_true q229; have p22 : 0 ≤ (0 : Int) := (by omega); have q22 : (0 : Int) < (((rd_L3 y228 x25_2).length : Int) : Int) := of_decide_eq_true (by first | (with_reducible assumption) | assumption); have qi22 : (0 < (rd_L3 y228 x25_2).length) = True := eq_true (by omega); obtain ⟨go22, co22, eo22, gb22, gl22, cl22, HG22⟩ := Kd.R_form HL229_0.out (by omega); (first | cases eo22 | (injection eo22 with ea_ en_ ec_; (first | subst ea_ | (injection ea_ with ea_; subst ea_)); subst ec_; clear en_)); have GB22 := Aside0.mk gb22; have GG22 := Aside0.mk HG22; clear gb22 gl22 HG22; obtain ⟨hx22_0, hf22_0⟩ := Kd.R_celln 0 HL229_0.out (0 : Int) p22 q22; (try rw [show ((0 : Int)).toNat = 0 from rfl] at hx22_0); (try simp only [Nat.reduceMul, Nat.zero_mul, Nat.zero_add, Nat.reduceAdd] at hx22_0); (try rw [show ((0 : Int)).toNat = 0 from rfl] at hf22_0); (try simp only [Nat.reduceMul, Nat.zero_mul, Nat.zero_add, Nat.reduceAdd] at hf22_0); replace p22 := eq_true p22; replace q22 := eq_true q22; have hq27 : (x25_2 : Int) < (y228.length : Int) := (by have h_ : (x25_2 : Int) < ((x5_2.length : Int) : Int) := of_decide_eq_true (by first | (with_reducible assumption) | assumption); first | exact h_ | (have e_ := (Kd.S_reads' HO_5.out).1; omega) | simpa only [Ny228.out, List.length_set] using h_); obtain ⟨oki27, ce27, hcl27, hM27, hcc27, hok27, hbk27⟩ := Kd.S_borrow HO_5.out [] (x25_2 : Int) (of_decide_eq_true (by first | (with_reducible assumption) | assumption)) (by first | exact hq27 | exact of_decide_eq_true (by first | (with_reducible assumption) | assumption) | (have e_ := (Kd.S_reads' HO_5.out).1; omega)); obtain ⟨ve27_0, rfl, ge27_0⟩ := hM27; have hv27 := hcc27 0 _ rfl; rw [Nat.add_zero, show ((Kd.slice 3 (Kd.int .i64))).sz = 1 from rfl, Nat.mul_one] at hv27; replace hv27 := Option.some.inj (hv27.symm.trans HX229_0.out); subst hv27; clear hcc27 hcl27; replace ge27_0 := (show Kd.R (Kd.int .i64) 3 _ _ _ _ (rd_L3 y228 x25_2) from ge27_0); have HP27 := Kd.R_putg ge27_0 (0 : Int) x25_2) | ((with_reducible refine gate_store (t := 3) (p := 40) rfl ?_); (try (rw [drewN_self w26]; generalize hq_ : World.drewN w26 _ = w26; have n0_ := Aside0.mk (Kd.S_at hq_ HO_5.out); have n1_ := Aside0.mk (Kd.R_at hq_ HL256.out); have n2_ := Aside0.mk (below_at hq_ HB.out); clear hq_ HO_5 HL256 HB; have HO_5 := n0_; have HL256 := n1_; have HB := n2_; clear n0_ n1_ n2_; (try (have hq27 : (x25_2 : Int) < (y228.length : Int) := (by have h_ : (x25_2 : Int) < ((x5_2.length : Int) : Int) := of_decide_eq_true (by first | (with_reducible assumption) | assumption); first | exact h_ | (have e_ := (Kd.S_reads' HO_5.out).1; omega) | simpa only [Ny228.out, List.length_set] using h_))); (try (obtain ⟨oki27, ce27, hcl27, hM27, hcc27, hok27, hbk27⟩ := Kd.S_borrow HO_5.out [] (x25_2 : Int) (of_decide_eq_true (by first | (with_reducible assumption) | assumption)) hq27)); (try (obtain ⟨ve27_0, rfl, ge27_0⟩ := hM27)); (try (have hv27 := hcc27 0 _ rfl)); (try (rw [Nat.add_zero, show ((Kd.slice 3 (Kd.int .i64))).sz = 1 from rfl, Nat.mul_one] at hv27)); (try (replace hv27 := Option.some.inj (hv27.symm.trans HX229_0.out))); (try (subst hv27)); (try (clear hcc27 hcl27)); (try (replace ge27_0 := (show Kd.R (Kd.int .i64) 3 _ _ _ _ (rd_L3 y228 x25_2) from ge27_0))); (try (have HP27 := Kd.R_putg ge27_0 (0 : Int) x25_2)))); refine store_event (t := 3) (p := 40) (v := ?vo_w28) (w1 := (w26.setCell ⟨go22, 0, none⟩ (.int .i64 x25_2))) ?hg ?ho ?hn ?hr ?_; (case ho => rfl); (case hg => rfl); (case hn => rfl); (case hr => first | (go_simp; done) | (go_simp; rfl)); intro w28 hw; have hg : w26.grownBy w28 (some go22) := (by rw [hw]; exact HP27.2); have hz_ : Kd.R (Kd.int .i64) 3 w28 w.heap.size oki27 (.slice (some ⟨go22, 0, none⟩) (rd_L3 y228 x25_2).length c229_0) y230 := (by rw [hw, Ny230.out]; exact HP27.1); have hp_ : Kd.S (Kd.slice 3 (Kd.int .i64)) 102 w28 w.heap.size (fun _ => True) (.slice (some ⟨go20, 0, none⟩) x5_2.length co13) y232 := (by rw [Ny232.out]; exact hbk27 hg (fun k_ e_ => by injection e_ with e_; subst e_; exact ge27_0.1 _ rfl) (Kd.M_row hz_)); have hm_ := Kd.R_mono hz_ hok27; clear HP27 hbk27; have n0_ := Aside0.mk (hp_); have n1_ := Aside0.mk ((by rw [hw]; exact below_set (HB.out) GB22.out : Below w.heap.size w w28)); have n2_ := Aside0.mk (hm_); have n3_ := Aside0.mk ((Kd.R_reads' hm_).2.1); clear HO_5; clear HB; clear HL229_0; have HO_5 := n0_; have HB := n1_; have HL256 := n2_; have HC231 := n3_; clear n0_ n1_ n2_ n3_; clear hg hw hp_ hz_ hm_ hok27)); try go_wp2_with (first | ((with_reducible refine gate_dst (N := 33) rfl ?_); refine Kd.R_make (Kd.int .i64) _ 3 rfl (N := 33) rfl 102 _ _ rfl ji15 rfl rfl Try.underlying102 (.int .i64 0) 8 info3 rfl (by decide) (by omega) 0 (ok := fun _ => True) (okp := fun _ => True) rfl (fun _ hk => hk) trivial (of_decide_eq_true (by first | (with_reducible assumption) | assumption)) (Nat.le_trans (Nat.mul_le_mul_right _ (of_decide_eq_true (by first | (with_reducible assumption) | assumption) : ji15.toNat ≤ 35184372088832)) (by omega)) (Below.refl _ _) (Nat.le_refl _) ?_; intro v226 w23 ho24 hb hg_ hnew_; clear hg_ hnew_; (first | rw [← Ny225.out] at ho24 | (simp only [Int.reduceToNat] at ho24; rw [← Ny225.out] at ho24) | (simp only [Int.toNat_natCast] at ho24; rw [← Ny225.out] at ho24)); have n0_ := Aside0.mk (Kd.S_elder' (by (with_reducible repeat (first | apply Kd.S_alloc | apply Kd.S_drewN | apply Kd.S_drew)); exact HO_5.out) (Kd.R_base ho24) hb); have n1_ := Aside0.mk (Kd.R_lower ho24 (below_size (by repeat (first | (with_reducible first | exact HB.out | apply below_alloc | apply pw_below_drewN | apply below_drew1) | exact HB.out)))); have n2_ := Aside0.mk (below_step (by repeat (first | (with_reducible first | exact HB.out | apply below_alloc | apply pw_below_drewN | apply below_drew1) | exact HB.out)) hb); clear HO_5; clear HB; have HO_5 := n0_; have HO227 := n1_; have HB := n2_; clear n0_ n1_ n2_; clear hb ho24; have p20 : 0 ≤ (x25_2 : Int) := of_decide_eq_true (by first | (with_reducible assumption) | assumption); have q20 : (x25_2 : Int) < ((x5_2.length : Int) : Int) := of_decide_eq_true (by first | (with_reducible assumption) | assumption); obtain ⟨go20, co20, eo20, gb20, gl20, cl20, HG20⟩ := Kd.S_form HO_5.out (by omega); (first | cases eo20 | (injection eo20 with ea_ en_ ec_; (first | subst ea_ | (injection ea_ with ea_; subst ea_)); subst ec_; clear en_)); have GB20 := Aside0.mk gb20; have GG20 := Aside0.mk HG20; clear gb20 gl20 HG20; obtain ⟨_, ce20, hcl20, hM20, hcc20, hfr20, _, _⟩ := Kd.S_elem HO_5.out [] (x25_2 : Int) p20 q20; obtain ⟨ve20_0, rfl, ge20_0⟩ := hM20; have hx20_0 := hcc20 0 _ rfl; have hf20_0 := hfr20 0; (try simp only [show ((Kd.slice 3 (Kd.int .i64))).sz = 1 from rfl, Nat.mul_one, Nat.add_zero] at hx20_0); (try simp only [show ((Kd.slice 3 (Kd.int .i64))).sz = 1 from rfl, Nat.mul_one, Nat.add_zero] at hf20_0); clear hcl20 hcc20 hfr20; (try clear hM20); replace p20 := eq_true p20; replace q20 := eq_true q20; have n_ := Aside0.mk (Kd.S_mono (ok' := (fun k_ => some k_ ≠ (v226 : Value).ownBlock)) HO_5.out (fun k_ hk => hk.2)); clear HO_5; have HO_5 := n_; clear n_; have HX25 := Aside0.mk (show Kd.S (Kd.slice 3 (Kd.int .i64)) 102 w23 w.heap.size (fun k_ => ((fun _ => True)) k_ ∧ ¬ ((fun k_ => some k_ = (v226 : Value).ownBlock)) k_) (.slice (some ⟨go20, 0, none⟩) x5_2.length co13) x5_2 from (by (with_reducible repeat (first | apply Kd.S_alloc | apply Kd.S_drewN | apply Kd.S_drew)); exact Kd.S_mono HO_5.out (fun k_ hk => ⟨trivial, fun e_ => hk e_⟩))); obtain ⟨oki25, ce25, hcl25, hM25, hcc25, hfr25, hoki25, hH25⟩ := Kd.S_elem HX25.out [] (x25_2 : Int) (of_decide_eq_true (by first | (with_reducible assumption) | assumption)) (by have h_ : (x25_2 : Int) < ((x5_2.length : Int) : Int) := of_decide_eq_true (by first | (with_reducible assumption) | assumption); first | exact h_ | (have e_ := (Kd.S_reads' HO_5.out).1; omega) | simpa using h_); obtain ⟨ve25_0, rfl, ge25_0⟩ := hM25; have HP25 := Kd.S_seg hH25 (of_decide_eq_true (by first | (with_reducible assumption) | assumption)) (by have h_ : (x25_2 : Int) < ((x5_2.length : Int) : Int) := of_decide_eq_true (by first | (with_reducible assumption) | assumption); first | exact h_ | (have e_ := (Kd.S_reads' HO_5.out).1; omega) | simpa using h_) (seg := [v226]) (j := 0) (show 1 ≤ 1 from by decide) (x' := y225) (Kd.M_row (Kd.R_mono (Kd.R_tight rfl (Kd.R_mono (ok' := fun k_ => ((fun _ => True)) k_ ∧ k_ ≠ go20) (Kd.R_apart' (HO227.out) (Kd.S_typed HO_5.out) (by decide)) (fun k_ hk => ⟨trivial, fun e_ => (hk.2) (by rw [e_]; rfl)⟩))) (fun _ h_ => Or.inr (h_)))) (fun _ hk => hk) (fun k_ hk_ => ((Kd.R_mono (ok' := fun k_ => ((fun _ => True)) k_ ∧ k_ ≠ go20) (Kd.R_apart' (HO227.out) (Kd.S_typed HO_5.out) (by decide)) (fun k_ hk => ⟨trivial, fun e_ => (hk.2) (by rw [e_]; rfl)⟩))).1 k_ hk_.symm); have hx25_0 := hcc25 0 _ rfl; (try simp only [show ((Kd.slice 3 (Kd.int .i64))).sz = 1 from rfl, Nat.mul_one, Nat.add_zero] at hx25_0); have hf25_0 := hfr25 0; (try simp only [show ((Kd.slice 3 (Kd.int .i64))).sz = 1 from rfl, Nat.mul_one, Nat.add_zero] at hf25_0); clear hcl25 hcc25 hfr25 hoki25 hH25; (try clear hM25); (try simp only [show ((Kd.slice 3 (Kd.int .i64))).sz = 1 from rfl, Nat.mul_one, Nat.add_zero] at HP25)) | ((with_reducible refine gate_store (t := 102) (p := 34) rfl ?_); (try (rw [drewN_self w23]; generalize hq_ : World.drewN w23 _ = w23; have n0_ := Aside0.mk (Kd.S_at hq_ HO_5.out); have n1_ := Aside0.mk (below_at hq_ HB.out); clear hq_ HO_5 HB; have HO_5 := n0_; have HB := n1_; clear n0_ n1_; (try (have n_ := Aside0.mk (Kd.S_mono (ok' := (fun k_ => some k_ ≠ (v226 : Value).ownBlock)) HO_5.out (fun k_ hk => hk.2)); clear HO_5; have HO_5 := n_; clear n_)); (try (have HX25 := Aside0.mk (show Kd.S (Kd.slice 3 (Kd.int .i64)) 102 w23 w.heap.size (fun k_ => ((fun _ => True)) k_ ∧ ¬ ((fun k_ => some k_ = (v226 : Value).ownBlock)) k_) (.slice (some ⟨go20, 0, none⟩) x5_2.length co13) x5_2 from (by (with_reducible repeat (first | apply Kd.S_alloc | apply Kd.S_drewN | apply Kd.S_drew)); exact Kd.S_mono HO_5.out (fun k_ hk => ⟨trivial, fun e_ => hk e_⟩))))); (try (obtain ⟨oki25, ce25, hcl25, hM25, hcc25, hfr25, hoki25, hH25⟩ := Kd.S_elem HX25.out [] (x25_2 : Int) (of_decide_eq_true (by first | (with_reducible assumption) | assumption)) (by have h_ : (x25_2 : Int) < ((x5_2.length : Int) : Int) := of_decide_eq_true (by first | (with_reducible assumption) | assumption); first | exact h_ | (have e_ := (Kd.S_reads' HO_5.out).1; omega) | simpa using h_))); (try (obtain ⟨ve25_0, rfl, ge25_0⟩ := hM25)); (try (have HP25 := Kd.S_seg hH25 (of_decide_eq_true (by first | (with_reducible assumption) | assumption)) (by have h_ : (x25_2 : Int) < ((x5_2.length : Int) : Int) := of_decide_eq_true (by first | (with_reducible assumption) | assumption); first | exact h_ | (have e_ := (Kd.S_reads' HO_5.out).1; omega) | simpa using h_) (seg := [v226]) (j := 0) (show 1 ≤ 1 from by decide) (x' := y225) (Kd.M_row (Kd.R_mono (Kd.R_tight rfl (Kd.R_mono (ok' := fun k_ => ((fun _ => True)) k_ ∧ k_ ≠ go20) (Kd.R_apart' (HO227.out) (Kd.S_typed HO_5.out) (by decide)) (fun k_ hk => ⟨trivial, fun e_ => (hk.2) (by rw [e_]; rfl)⟩))) (fun _ h_ => Or.inr (h_)))) (fun _ hk => hk) (fun k_ hk_ => ((Kd.R_mono (ok' := fun k_ => ((fun _ => True)) k_ ∧ k_ ≠ go20) (Kd.R_apart' (HO227.out) (Kd.S_typed HO_5.out) (by decide)) (fun k_ hk => ⟨trivial, fun e_ => (hk.2) (by rw [e_]; rfl)⟩))).1 k_ hk_.symm))); (try (have hx25_0 := hcc25 0 _ rfl)); (try (try simp only [show ((Kd.slice 3 (Kd.int .i64))).sz = 1 from rfl, Nat.mul_one, Nat.add_zero] at hx25_0)); (try (have hf25_0 := hfr25 0)); (try (try simp only [show ((Kd.slice 3 (Kd.int .i64))).sz = 1 from rfl, Nat.mul_one, Nat.add_zero] at hf25_0)); (try (clear hcl25 hcc25 hfr25 hoki25 hH25; (try clear hM25))); (try (try simp only [show ((Kd.slice 3 (Kd.int .i64))).sz = 1 from rfl, Nat.mul_one, Nat.add_zero] at HP25)))); have hcs_ := (by obtain ⟨A_, c_, e_⟩ := Kd.R_slice HO227.out; rw [e_]; rfl : Value.cells v226 = #[v226]); unfold Value.cells at hcs_; have hst_ := (by obtain ⟨A_, c_, e_⟩ := Kd.R_slice HO227.out; intro a_ w_ m_; rw [e_]; exact run_store_slice _ _ _ _ _ _ _ : ∀ (a_ : Addr) (w_ : World) (m_ : Mode), (store a_ v226 m_).run Try.prog w_ = stored Try.prog w_ a_ v226 m_); refine store_event (t := 102) (p := 34) (v := ?vo_w26) (w1 := (w23.setCell ⟨go20, (x25_2 : Int).toNat, none⟩ (v226))) ?hg ?ho ?hn ?hr ?_; (case ho => rfl); (case hg => rfl); (case hn => rfl); (case hr => first | (go_simp; done) | (go_simp; rfl)); intro w26 hw; have hg : w23.grownBy w26 (some go20) := (by rw [hw]; exact HP25.2); have hp_ : Kd.S (Kd.slice 3 (Kd.int .i64)) 102 w26 w.heap.size (fun _ => True) (.slice (some ⟨go20, 0, none⟩) x5_2.length co13) y228 := (by rw [hw, Ny228.out]; exact HP25.1); clear HP25; have n0_ := Aside0.mk (hp_); have n1_ := Aside0.mk ((by rw [hw]; exact below_set (HB.out) GB20.out : Below w.heap.size w w26)); clear HO_5; clear HB; clear HO227; have HO_5 := n0_; have HB := n1_; clear n0_ n1_; clear hg hw hp_; have p229 : 0 ≤ (x25_2 : Int) := of_decide_eq_true (by first | (with_reducible assumption) | assumption); have q229 : x25_2 < (y228.length : Int) := (by have h_ : (x25_2 : Int) < ((x5_2.length : Int) : Int) := of_decide_eq_true (by first | (with_reducible assumption) | assumption); first | (have e_ := (Kd.S_reads' HO_5.out).1; omega) | simpa only [Ny228.out, List.length_set] using h_); have ql229 : ((x25_2 : Int) < ((x5_2.length : Int) : Int)) = True := eq_true (of_decide_eq_true (by first | (with_reducible assumption) | assumption)); obtain ⟨ad229, A229_0, c229_0, e229, hx229_0, hl229_0, hi229_0⟩ := at_L3 (Kd.S_reads' HO_5.out).2.2 x25_2 p229 q229; obtain rfl : (⟨go20, 0, none⟩ : Addr) = ad229 := (by injection e229); obtain ⟨ce229, hce229, hMe229, hcc229⟩ := Kd.S_get HO_5.out [] x25_2 p229 (by first | exact q229 | exact of_decide_eq_true (by first | (with_reducible assumption) | assumption) | (have e_ := (Kd.S_reads' HO_5.out).1; omega)); obtain ⟨ve229_0, rfl, ge229_0⟩ := hMe229; have hv229_0 := hcc229 0 _ rfl; rw [Nat.add_zero, show ((Kd.slice 3 (Kd.int .i64))).sz = 1 from rfl, Nat.mul_one] at hv229_0; replace hv229_0 := Option.some.inj (hv229_0.symm.trans hx229_0); rw [hv229_0] at ge229_0; have HL229_0 := Aside0.mk (show Kd.R (Kd.int .i64) 3 _ _ _ _ (rd_L3 y228 x25_2) from ge229_0); clear hv229_0 ge229_0; have HX229_0 := Aside0.mk hx229_0; clear hcc229 hce229; (first | simp only [add_plain] at hx229_0 | simp only [add_at] at hx229_0 | simp only [Addr.add, Nat.zero_add] at hx229_0 | skip); have HR229_0 := Aside0.mk hi229_0; have HC229_0 := Aside0.mk hl229_0; clear hi229_0 hl229_0; replace p229 := eq_true p229; replace q229 := eq_true q229; have p22 : 0 ≤ (0 : Int) := (by omega); have q22 : (0 : Int) < (((rd_L3 y228 x25_2).length : Int) : Int) := of_decide_eq_true (by first | (with_reducible assumption) | assumption); have qi22 : (0 < (rd_L3 y228 x25_2).length) = True := eq_true (by omega); obtain ⟨go22, co22, eo22, gb22, gl22, cl22, HG22⟩ := Kd.R_form HL229_0.out (by omega); (first | cases eo22 | (injection eo22 with ea_ en_ ec_; (first | subst ea_ | (injection ea_ with ea_; subst ea_)); subst ec_; clear en_)); have GB22 := Aside0.mk gb22; have GG22 := Aside0.mk HG22; clear gb22 gl22 HG22; obtain ⟨hx22_0, hf22_0⟩ := Kd.R_celln 0 HL229_0.out (0 : Int) p22 q22; (try rw [show ((0 : Int)).toNat = 0 from rfl] at hx22_0); (try simp only [Nat.reduceMul, Nat.zero_mul, Nat.zero_add, Nat.reduceAdd] at hx22_0); (try rw [show ((0 : Int)).toNat = 0 from rfl] at hf22_0); (try simp only [Nat.reduceMul, Nat.zero_mul, Nat.zero_add, Nat.reduceAdd] at hf22_0); replace p22 := eq_true p22; replace q22 := eq_true q22; have hq27 : (x25_2 : Int) < (y228.length : Int) := (by have h_ : (x25_2 : Int) < ((x5_2.length : Int) : Int) := of_decide_eq_true (by first | (with_reducible assumption) | assumption); first | exact h_ | (have e_ := (Kd.S_reads' HO_5.out).1; omega) | simpa only [Ny228.out, List.length_set] using h_); obtain ⟨oki27, ce27, hcl27, hM27, hcc27, hok27, hbk27⟩ := Kd.S_borrow HO_5.out [] (x25_2 : Int) (of_decide_eq_true (by first | (with_reducible assumption) | assumption)) (by first | exact hq27 | exact of_decide_eq_true (by first | (with_reducible assumption) | assumption) | (have e_ := (Kd.S_reads' HO_5.out).1; omega)); obtain ⟨ve27_0, rfl, ge27_0⟩ := hM27; have hv27 := hcc27 0 _ rfl; rw [Nat.add_zero, show ((Kd.slice 3 (Kd.int .i64))).sz = 1 from rfl, Nat.mul_one] at hv27; replace hv27 := Option.some.inj (hv27.symm.trans HX229_0.out); subst hv27; clear hcc27 hcl27; replace ge27_0 := (show Kd.R (Kd.int .i64) 3 _ _ _ _ (rd_L3 y228 x25_2) from ge27_0); have HP27 := Kd.R_putg ge27_0 (0 : Int) x25_2) | ((with_reducible refine gate_store (t := 3) (p := 40) rfl ?_); (try (rw [drewN_self w26]; generalize hq_ : World.drewN w26 _ = w26; have n0_ := Aside0.mk (Kd.S_at hq_ HO_5.out); have n1_ := Aside0.mk (Kd.R_at hq_ HL256.out); have n2_ := Aside0.mk (below_at hq_ HB.out); clear hq_ HO_5 HL256 HB; have HO_5 := n0_; have HL256 := n1_; have HB := n2_; clear n0_ n1_ n2_; (try (have hq27 : (x25_2 : Int) < (y228.length : Int) := (by have h_ : (x25_2 : Int) < ((x5_2.length : Int) : Int) := of_decide_eq_true (by first | (with_reducible assumption) | assumption); first | exact h_ | (have e_ := (Kd.S_reads' HO_5.out).1; omega) | simpa only [Ny228.out, List.length_set] using h_))); (try (obtain ⟨oki27, ce27, hcl27, hM27, hcc27, hok27, hbk27⟩ := Kd.S_borrow HO_5.out [] (x25_2 : Int) (of_decide_eq_true (by first | (with_reducible assumption) | assumption)) hq27)); (try (obtain ⟨ve27_0, rfl, ge27_0⟩ := hM27)); (try (have hv27 := hcc27 0 _ rfl)); (try (rw [Nat.add_zero, show ((Kd.slice 3 (Kd.int .i64))).sz = 1 from rfl, Nat.mul_one] at hv27)); (try (replace hv27 := Option.some.inj (hv27.symm.trans HX229_0.out))); (try (subst hv27)); (try (clear hcc27 hcl27)); (try (replace ge27_0 := (show Kd.R (Kd.int .i64) 3 _ _ _ _ (rd_L3 y228 x25_2) from ge27_0))); (try (have HP27 := Kd.R_putg ge27_0 (0 : Int) x25_2)))); refine store_event (t := 3) (p := 40) (v := ?vo_w28) (w1 := (w26.setCell ⟨go22, 0, none⟩ (.int .i64 x25_2))) ?hg ?ho ?hn ?hr ?_; (case ho => rfl); (case hg => rfl); (case hn => rfl); (case hr => first | (go_simp; done) | (go_simp; rfl)); intro w28 hw; have hg : w26.grownBy w28 (some go22) := (by rw [hw]; exact HP27.2); have hz_ : Kd.R (Kd.int .i64) 3 w28 w.heap.size oki27 (.slice (some ⟨go22, 0, none⟩) (rd_L3 y228 x25_2).length c229_0) y230 := (by rw [hw, Ny230.out]; exact HP27.1); have hp_ : Kd.S (Kd.slice 3 (Kd.int .i64)) 102 w28 w.heap.size (fun _ => True) (.slice (some ⟨go20, 0, none⟩) x5_2.length co13) y232 := (by rw [Ny232.out]; exact hbk27 hg (fun k_ e_ => by injection e_ with e_; subst e_; exact ge27_0.1 _ rfl) (Kd.M_row hz_)); have hm_ := Kd.R_mono hz_ hok27; clear HP27 hbk27; have n0_ := Aside0.mk (hp_); have n1_ := Aside0.mk ((by rw [hw]; exact below_set (HB.out) GB22.out : Below w.heap.size w w28)); have n2_ := Aside0.mk (hm_); have n3_ := Aside0.mk ((Kd.R_reads' hm_).2.1); clear HO_5; clear HB; clear HL229_0; have HO_5 := n0_; have HB := n1_; have HL256 := n2_; have HC231 := n3_; clear n0_ n1_ n2_ n3_; clear hg hw hp_ hz_ hm_ hok27)))
                            (try simp only [← hl5_2])
                            go_roundg k2
                            case measure => have := HJ2.out; have := HK2.out; omega
                            case rel => exact ⟨(y232), (wrap64 (x25_2 + 1)), (by first | rfl | (simp; done) | (simp [*]; done)), H', ⟨by have := HJ2.out; have := HK2.out; omega⟩, ⟨by (try simp only [hl5_2]); (with_reducible repeat (first | apply Kd.S_alloc | apply Kd.S_drewN | apply Kd.S_drew)); exact HO_5.out⟩, ⟨by repeat (first | (with_reducible first | exact HB.out | apply below_alloc | apply pw_below_drewN | apply below_drew1) | exact HB.out)⟩⟩
                          · rw [if_neg c21] at H
                            exact absurd H (by simp)
                        · rw [if_neg c19] at H
                          exact absurd H (by simp)
                      · rw [if_neg c18] at H
                        exact absurd H (by simp)
                    · rw [if_neg c17] at H
                      exact absurd H (by simp)
                  · rw [if_neg c16] at H
                    exact absurd H (by simp)
                · rw [if_neg c14] at H
                  have c14b0 : decide (x25_2 < (y222.length : Int)) = false := decide_eq_false c14
                  try have c14b8 := c14b0
                  try simp only [hl5_2] at c14b8
                  clear c14
                  by_cases c29 : 0 < (x5_2.length : Int)
                  · rw [if_pos c29] at H
                    have c29b0 : decide (0 < (x5_2.length : Int)) = true := decide_eq_true c29
                    try have c29b8 := c29b0
                    try simp only [hl5_2] at c29b8
                    have c29b1 : decide (0 < x5_2.length) = true := decide_eq_true (by omega)
                    clear c29
                    have H' := Aside0.mk H
                    clear H
                    have p233 : 0 ≤ (0 : Int) := (by omega)
                    have q233 : 0 < (x5_2.length : Int) := of_decide_eq_true (by first | (with_reducible assumption) | assumption)
                    obtain ⟨ad233, A233_0, c233_0, e233, hx233_0, hl233_0, hi233_0⟩ := at_L3 (Kd.S_reads' HO_5.out).2.2 0 p233 q233
                    cases e233
                    obtain ⟨ce233, hce233, hMe233, hcc233⟩ := Kd.S_get HO_5.out [] 0 p233 (by first | exact q233 | exact of_decide_eq_true (by first | (with_reducible assumption) | assumption) | (have e_ := (Kd.S_reads' HO_5.out).1; omega))
                    obtain ⟨ve233_0, rfl, ge233_0⟩ := hMe233
                    have hv233_0 := hcc233 0 _ rfl
                    rw [Nat.add_zero, show ((Kd.slice 3 (Kd.int .i64))).sz = 1 from rfl, Nat.mul_one] at hv233_0
                    replace hv233_0 := Option.some.inj (hv233_0.symm.trans hx233_0)
                    rw [hv233_0] at ge233_0
                    have HL233_0 := Aside0.mk (show Kd.R (Kd.int .i64) 3 _ _ _ _ (rd_L3 x5_2 0) from ge233_0)
                    clear hv233_0 ge233_0
                    have HX233_0 := Aside0.mk hx233_0
                    clear hcc233 hce233
                    have qi233 : (0 < x5_2.length) = True := eq_true (by omega)
                    (try rw [show ((0 : Int)).toNat = 0 from rfl] at hx233_0)
                    (try rw [Addr.add_zero'] at hx233_0)
                    have HR233_0 := Aside0.mk hi233_0
                    have HC233_0 := Aside0.mk hl233_0
                    clear hi233_0 hl233_0
                    replace p233 := eq_true p233
                    replace q233 := eq_true q233
                    go_wp2
                    repeat (go_quiet (fail); try go_wp2)
                    go_loopg [46] k2 (fun kq v46 w' => ∃ (x5_3 : List (List Int)) (x46_3 : Int), v46 = .int .i64 x46_3 ∧ Aside0 (impl_Far.l1 kq a0 a1 x5_3 ((rd_L3 x5_2 0).length : Int) x46_3 = some r) ∧ Aside0 (kq ≤ k2) ∧ Aside0 (Kd.S (Kd.slice 3 (Kd.int .i64)) 102 w' w.heap.size (fun _ => True) (.slice (some ad233) x5_2.length co13) x5_3) ∧ Aside0 (Below w.heap.size w w'))
                    case atStart => exact ⟨(x5_2), (0), (by first | rfl | (simp; done) | (simp [*]; done)), H', ⟨Nat.le_refl _⟩, ⟨by (try simp only [hl5_2]); (with_reducible repeat (first | apply Kd.S_alloc | apply Kd.S_drewN | apply Kd.S_drew)); exact HO_5.out⟩, ⟨by repeat (first | (with_reducible first | exact HB.out | apply below_alloc | apply pw_below_drewN | apply below_drew1) | exact HB.out)⟩⟩
                    case round =>
                      clear H'
                      try clear c1
                      try clear c2
                      try clear p2
                      try clear q2
                      try clear hx2
                      try clear qi2
                      try clear hf2
                      try clear c4
                      try clear c5
                      try clear p6
                      try clear c7
                      try clear c9
                      try clear c9b0
                      try clear c9b1
                      try clear c10
                      try clear c10b0
                      try clear c10b1
                      try clear c14
                      try clear c14b0
                      try clear c16
                      try clear c16b0
                      try clear c16b1
                      try clear c17
                      try clear c17b0
                      try clear c17b1
                      try clear c18
                      try clear c18b0
                      try clear c19
                      try clear c19b0
                      try clear c20
                      try clear p20
                      try clear q20
                      try clear hx20
                      try clear hf20
                      try clear c21
                      try clear c21b0
                      try clear c21b1
                      try clear c22
                      try clear p22
                      try clear q22
                      try clear hx22
                      try clear qi22
                      try clear hf22
                      try clear c23
                      try clear p23
                      try clear q23
                      try clear hx23
                      try clear qi23
                      try clear c25
                      try clear hx25
                      try clear hf25
                      try clear c27
                      try clear q27
                      try clear c29
                      try clear c29b0
                      try clear c29b1
                      try clear hx20_0
                      try clear hx229_0
                      try clear hx22_0
                      try clear hx233_0
                      try clear hx25_0
                      try clear p2
                      try clear p20
                      try clear p22
                      try clear p229
                      try clear p233
                      try clear p6
                      try clear q20
                      try clear q22
                      try clear q229
                      try clear q233
                      obtain ⟨x5_3, x46_3, rfl, HA, HK3, HO_5, HB⟩ := hrel
                      have hl5_3 := (Kd.S_reads' HO_5.out).1
                      rw [hl5_3] at HO_5
                      (try simp only [hl5_3])
                      cases gk with
                      | zero => exact absurd HA.out (by simp [impl_Far.l1])
                      | succ k3 =>
                        have H := HA.out
                        clear HA
                        simp only [impl_Far.l1] at H
                        by_cases c30 : x46_3 < ((rd_L3 x5_2 0).length : Int)
                        · rw [if_pos c30] at H
                          have c30b0 : decide (x46_3 < ((rd_L3 x5_2 0).length : Int)) = true := decide_eq_true c30
                          try have c30b8 := c30b0
                          try simp only [hl5_2] at c30b8
                          try simp only [hl5_3] at c30b8
                          clear c30
                          by_cases c31 : 0 < (x5_3.length : Int)
                          · rw [if_pos c31] at H
                            have c31b0 : decide (0 < (x5_3.length : Int)) = true := decide_eq_true c31
                            try have c31b8 := c31b0
                            try simp only [hl5_2] at c31b8
                            try simp only [hl5_3] at c31b8
                            have c31b1 : decide (0 < x5_3.length) = true := decide_eq_true (by omega)
                            clear c31
                            by_cases c32 : 0 ≤ x46_3
                            · rw [if_pos c32] at H
                              have c32b0 : decide (0 ≤ x46_3) = true := decide_eq_true c32
                              clear c32
                              by_cases c33 : x46_3 < ((rd_L3 x5_3 0).length : Int)
                              · rw [if_pos c33] at H
                                have c33b0 : decide (x46_3 < ((rd_L3 x5_3 0).length : Int)) = true := decide_eq_true c33
                                try have c33b8 := c33b0
                                try simp only [hl5_2] at c33b8
                                try simp only [hl5_3] at c33b8
                                clear c33
                                obtain ⟨y235, hy235⟩ : ∃ y_ : List Int, y_ = ((rd_L3 x5_3 0).set (x46_3 : Int).toNat x46_3) := ⟨_, rfl⟩
                                replace H : (impl_Far.l1 k3 a0 a1 (x5_3.set (0 : Int).toNat y235) ((rd_L3 x5_2 0).length : Int) (wrap64 (x46_3 + 1))) = some r := by first | (rw [hy235]; with_reducible exact H) | (have H2_ := (Option.bind_some _ _).symm.trans H; rw [hy235]; with_reducible exact H2_) | (have H2_ := (Option.bind_some _ _).symm.trans H; with_reducible exact H2_) | with_reducible exact H | (rw [hy235]; exact H) | exact H
                                have Ny235 := Aside0.mk hy235
                                clear hy235
                                obtain ⟨y237, hy237⟩ : ∃ y_ : List (List Int), y_ = (x5_3.set (0 : Int).toNat y235) := ⟨_, rfl⟩
                                replace H : (impl_Far.l1 k3 a0 a1 y237 ((rd_L3 x5_2 0).length : Int) (wrap64 (x46_3 + 1))) = some r := by first | (rw [hy237]; with_reducible exact H) | (have H2_ := (Option.bind_some _ _).symm.trans H; rw [hy237]; with_reducible exact H2_) | (have H2_ := (Option.bind_some _ _).symm.trans H; with_reducible exact H2_) | with_reducible exact H | (rw [hy237]; exact H) | exact H
                                have Ny237 := Aside0.mk hy237
                                clear hy237
                                have H' := Aside0.mk H
                                clear H
                                have p234 : 0 ≤ (0 : Int) := (by omega)
                                have q234 : 0 < (x5_3.length : Int) := of_decide_eq_true (by first | (with_reducible assumption) | assumption)
                                obtain ⟨ad234, A234_0, c234_0, e234, hx234_0, hl234_0, hi234_0⟩ := at_L3 (Kd.S_reads' HO_5.out).2.2 0 p234 q234
                                obtain rfl : ad233 = ad234 := (by injection e234)
                                obtain ⟨ce234, hce234, hMe234, hcc234⟩ := Kd.S_get HO_5.out [] 0 p234 (by first | exact q234 | exact of_decide_eq_true (by first | (with_reducible assumption) | assumption) | (have e_ := (Kd.S_reads' HO_5.out).1; omega))
                                obtain ⟨ve234_0, rfl, ge234_0⟩ := hMe234
                                have hv234_0 := hcc234 0 _ rfl
                                rw [Nat.add_zero, show ((Kd.slice 3 (Kd.int .i64))).sz = 1 from rfl, Nat.mul_one] at hv234_0
                                replace hv234_0 := Option.some.inj (hv234_0.symm.trans hx234_0)
                                rw [hv234_0] at ge234_0
                                have HL234_0 := Aside0.mk (show Kd.R (Kd.int .i64) 3 _ _ _ _ (rd_L3 x5_3 0) from ge234_0)
                                clear hv234_0 ge234_0
                                have HX234_0 := Aside0.mk hx234_0
                                clear hcc234 hce234
                                have qi234 : (0 < x5_3.length) = True := eq_true (by omega)
                                (try rw [show ((0 : Int)).toNat = 0 from rfl] at hx234_0)
                                (try rw [Addr.add_zero'] at hx234_0)
                                have HR234_0 := Aside0.mk hi234_0
                                have HC234_0 := Aside0.mk hl234_0
                                clear hi234_0 hl234_0
                                replace p234 := eq_true p234
                                replace q234 := eq_true q234
                                have p34 : 0 ≤ (x46_3 : Int) := of_decide_eq_true (by first | (with_reducible assumption) | assumption)
                                have q34 : (x46_3 : Int) < (((rd_L3 x5_3 0).length : Int) : Int) := of_decide_eq_true (by first | (with_reducible assumption) | assumption)
                                obtain ⟨go34, co34, eo34, gb34, gl34, cl34, HG34⟩ := Kd.R_form HL234_0.out (by omega)
                                (first | cases eo34 | (injection eo34 with ea_ en_ ec_; (first | subst ea_ | (injection ea_ with ea_; subst ea_)); subst ec_; clear en_))
                                have GB34 := Aside0.mk gb34
                                have GG34 := Aside0.mk HG34
                                clear gb34 gl34 HG34
                                obtain ⟨hx34_0, hf34_0⟩ := Kd.R_celln 0 HL234_0.out (x46_3 : Int) p34 q34
                                replace p34 := eq_true p34
                                replace q34 := eq_true q34
                                have hq35 : (0 : Int) < (x5_3.length : Int) := (by have h_ : (0 : Int) < ((x5_3.length : Int) : Int) := of_decide_eq_true (by first | (with_reducible assumption) | assumption); first | exact h_ | (have e_ := (Kd.S_reads' HO_5.out).1; omega) | simpa only [List.length_set, List.length_set] using h_)
                                obtain ⟨oki35, ce35, hcl35, hM35, hcc35, hok35, hbk35⟩ := Kd.S_borrow HO_5.out [] (0 : Int) (by omega) hq35
                                obtain ⟨ve35_0, rfl, ge35_0⟩ := hM35
                                have hv35 := hcc35 0 _ rfl
                                rw [Nat.add_zero, show ((Kd.slice 3 (Kd.int .i64))).sz = 1 from rfl, Nat.mul_one] at hv35
                                replace hv35 := Option.some.inj (hv35.symm.trans HX234_0.out)
                                subst hv35
                                clear hcc35 hcl35
                                replace ge35_0 := (show Kd.R (Kd.int .i64) 3 _ _ _ _ (rd_L3 x5_3 0) from ge35_0)
                                have HP35 := Kd.R_putg ge35_0 (x46_3 : Int) x46_3
                                go_wp2_with (first | ((with_reducible refine gate_store (t := 3) (p := 54) rfl ?_); (try (rw [drewN_self wr]; generalize hq_ : World.drewN wr _ = wr; have n0_ := Aside0.mk (Kd.S_at hq_ HO_5.out); have n1_ := Aside0.mk (Kd.R_at hq_ HL257.out); have n2_ := Aside0.mk (below_at hq_ HB.out); clear hq_ HO_5 HL257 HB; have HO_5 := n0_; have HL257 := n1_; have HB := n2_; clear n0_ n1_ n2_; (try (have hq35 : (0 : Int) < (x5_3.length : Int) := (by have h_ : (0 : Int) < ((x5_3.length : Int) : Int) := of_decide_eq_true (by first | (with_reducible assumption) | assumption); first | exact h_ | (have e_ := (Kd.S_reads' HO_5.out).1; omega) | simpa only [List.length_set, List.length_set] using h_))); (try (obtain ⟨oki35, ce35, hcl35, hM35, hcc35, hok35, hbk35⟩ := Kd.S_borrow HO_5.out [] (0 : Int) (by omega) hq35)); (try (obtain ⟨ve35_0, rfl, ge35_0⟩ := hM35)); (try (have hv35 := hcc35 0 _ rfl)); (try (rw [Nat.add_zero, show ((Kd.slice 3 (Kd.int .i64))).sz = 1 from rfl, Nat.mul_one] at hv35)); (try (replace hv35 := Option.some.inj (hv35.symm.trans HX234_0.out))); (try (subst hv35)); (try (clear hcc35 hcl35)); (try (replace ge35_0 := (show Kd.R (Kd.int .i64) 3 _ _ _ _ (rd_L3 x5_3 0) from ge35_0))); (try (have HP35 := Kd.R_putg ge35_0 (x46_3 : Int) x46_3)))); refine store_event (t := 3) (p := 54) (v := ?vo_w36) (w1 := (wr.setCell ⟨go34, (x46_3 : Int).toNat, none⟩ (.int .i64 x46_3))) ?hg ?ho ?hn ?hr ?_; (case ho => rfl); (case hg => rfl); (case hn => rfl); (case hr => first | (go_simp; done) | (go_simp; rfl)); intro w36 hw; have hg : wr.grownBy w36 (some go34) := (by rw [hw]; exact HP35.2); have hz_ : Kd.R (Kd.int .i64) 3 w36 w.heap.size oki35 (.slice (some ⟨go34, 0, none⟩) (rd_L3 x5_3 0).length c234_0) y235 := (by rw [hw, Ny235.out]; exact HP35.1); have hp_ : Kd.S (Kd.slice 3 (Kd.int .i64)) 102 w36 w.heap.size (fun _ => True) (.slice (some ad233) x5_3.length co13) y237 := (by rw [Ny237.out]; exact hbk35 hg (fun k_ e_ => by injection e_ with e_; subst e_; exact ge35_0.1 _ rfl) (Kd.M_row hz_)); have hm_ := Kd.R_mono hz_ hok35; clear HP35 hbk35; have n0_ := Aside0.mk (hp_); have n1_ := Aside0.mk ((by rw [hw]; exact below_set (HB.out) GB34.out : Below w.heap.size w w36)); have n2_ := Aside0.mk (hm_); have n3_ := Aside0.mk ((Kd.R_reads' hm_).2.1); clear HO_5; clear HB; clear HL234_0; have HO_5 := n0_; have HB := n1_; have HL257 := n2_; have HC236 := n3_; clear n0_ n1_ n2_ n3_; clear hg hw hp_ hz_ hm_ hok35))
                                repeat (go_quiet (first | ((with_reducible refine gate_store (t := 3) (p := 54) rfl ?_); (try (rw [drewN_self wr]; generalize hq_ : World.drewN wr _ = wr; have n0_ := Aside0.mk (Kd.S_at hq_ HO_5.out); have n1_ := Aside0.mk (Kd.R_at hq_ HL257.out); have n2_ := Aside0.mk (below_at hq_ HB.out); clear hq_ HO_5 HL257 HB; have HO_5 := n0_; have HL257 := n1_; have HB := n2_; clear n0_ n1_ n2_; (try (have hq35 : (0 : Int) < (x5_3.length : Int) := (by have h_ : (0 : Int) < ((x5_3.length : Int) : Int) := of_decide_eq_true (by first | (with_reducible assumption) | assumption); first | exact h_ | (have e_ := (Kd.S_reads' HO_5.out).1; omega) | simpa only [List.length_set, List.length_set] using h_))); (try (obtain ⟨oki35, ce35, hcl35, hM35, hcc35, hok35, hbk35⟩ := Kd.S_borrow HO_5.out [] (0 : Int) (by omega) hq35)); (try (obtain ⟨ve35_0, rfl, ge35_0⟩ := hM35)); (try (have hv35 := hcc35 0 _ rfl)); (try (rw [Nat.add_zero, show ((Kd.slice 3 (Kd.int .i64))).sz = 1 from rfl, Nat.mul_one] at hv35)); (try (replace hv35 := Option.some.inj (hv35.symm.trans HX234_0.out))); (try (subst hv35)); (try (clear hcc35 hcl35)); (try (replace ge35_0 := (show Kd.R (Kd.int .i64) 3 _ _ _ _ (rd_L3 x5_3 0) from ge35_0))); (try (have HP35 := Kd.R_putg ge35_0 (x46_3 : Int) x46_3)))); refine store_event (t := 3) (p := 54) (v := ?vo_w36) (w1 := (wr.setCell ⟨go34, (x46_3 : Int).toNat, none⟩ (.int .i64 x46_3))) ?hg ?ho ?hn ?hr ?_; (case ho => rfl); (case hg => rfl); (case hn => rfl); (case hr => first | (go_simp; done) | (go_simp; rfl)); intro w36 hw; have hg : wr.grownBy w36 (some go34) := (by rw [hw]; exact HP35.2); have hz_ : Kd.R (Kd.int .i64) 3 w36 w.heap.size oki35 (.slice (some ⟨go34, 0, none⟩) (rd_L3 x5_3 0).length c234_0) y235 := (by rw [hw, Ny235.out]; exact HP35.1); have hp_ : Kd.S (Kd.slice 3 (Kd.int .i64)) 102 w36 w.heap.size (fun _ => True) (.slice (some ad233) x5_3.length co13) y237 := (by rw [Ny237.out]; exact hbk35 hg (fun k_ e_ => by injection e_ with e_; subst e_; exact ge35_0.1 _ rfl) (Kd.M_row hz_)); have hm_ := Kd.R_mono hz_ hok35; clear HP35 hbk35; have n0_ := Aside0.mk (hp_); have n1_ := Aside0.mk ((by rw [hw]; exact below_set (HB.out) GB34.out : Below w.heap.size w w36)); have n2_ := Aside0.mk (hm_); have n3_ := Aside0.mk ((Kd.R_reads' hm_).2.1); clear HO_5; clear HB; clear HL234_0; have HO_5 := n0_; have HB := n1_; have HL257 := n2_; have HC236 := n3_; clear n0_ n1_ n2_ n3_; clear hg hw hp_ hz_ hm_ hok35)); try go_wp2_with (first | ((with_reducible refine gate_store (t := 3) (p := 54) rfl ?_); (try (rw [drewN_self wr]; generalize hq_ : World.drewN wr _ = wr; have n0_ := Aside0.mk (Kd.S_at hq_ HO_5.out); have n1_ := Aside0.mk (Kd.R_at hq_ HL257.out); have n2_ := Aside0.mk (below_at hq_ HB.out); clear hq_ HO_5 HL257 HB; have HO_5 := n0_; have HL257 := n1_; have HB := n2_; clear n0_ n1_ n2_; (try (have hq35 : (0 : Int) < (x5_3.length : Int) := (by have h_ : (0 : Int) < ((x5_3.length : Int) : Int) := of_decide_eq_true (by first | (with_reducible assumption) | assumption); first | exact h_ | (have e_ := (Kd.S_reads' HO_5.out).1; omega) | simpa only [List.length_set, List.length_set] using h_))); (try (obtain ⟨oki35, ce35, hcl35, hM35, hcc35, hok35, hbk35⟩ := Kd.S_borrow HO_5.out [] (0 : Int) (by omega) hq35)); (try (obtain ⟨ve35_0, rfl, ge35_0⟩ := hM35)); (try (have hv35 := hcc35 0 _ rfl)); (try (rw [Nat.add_zero, show ((Kd.slice 3 (Kd.int .i64))).sz = 1 from rfl, Nat.mul_one] at hv35)); (try (replace hv35 := Option.some.inj (hv35.symm.trans HX234_0.out))); (try (subst hv35)); (try (clear hcc35 hcl35)); (try (replace ge35_0 := (show Kd.R (Kd.int .i64) 3 _ _ _ _ (rd_L3 x5_3 0) from ge35_0))); (try (have HP35 := Kd.R_putg ge35_0 (x46_3 : Int) x46_3)))); refine store_event (t := 3) (p := 54) (v := ?vo_w36) (w1 := (wr.setCell ⟨go34, (x46_3 : Int).toNat, none⟩ (.int .i64 x46_3))) ?hg ?ho ?hn ?hr ?_; (case ho => rfl); (case hg => rfl); (case hn => rfl); (case hr => first | (go_simp; done) | (go_simp; rfl)); intro w36 hw; have hg : wr.grownBy w36 (some go34) := (by rw [hw]; exact HP35.2); have hz_ : Kd.R (Kd.int .i64) 3 w36 w.heap.size oki35 (.slice (some ⟨go34, 0, none⟩) (rd_L3 x5_3 0).length c234_0) y235 := (by rw [hw, Ny235.out]; exact HP35.1); have hp_ : Kd.S (Kd.slice 3 (Kd.int .i64)) 102 w36 w.heap.size (fun _ => True) (.slice (some ad233) x5_3.length co13) y237 := (by rw [Ny237.out]; exact hbk35 hg (fun k_ e_ => by injection e_ with e_; subst e_; exact ge35_0.1 _ rfl) (Kd.M_row hz_)); have hm_ := Kd.R_mono hz_ hok35; clear HP35 hbk35; have n0_ := Aside0.mk (hp_); have n1_ := Aside0.mk ((by rw [hw]; exact below_set (HB.out) GB34.out : Below w.heap.size w w36)); have n2_ := Aside0.mk (hm_); have n3_ := Aside0.mk ((Kd.R_reads' hm_).2.1); clear HO_5; clear HB; clear HL234_0; have HO_5 := n0_; have HB := n1_; have HL257 := n2_; have HC236 := n3_; clear n0_ n1_ n2_ n3_; clear hg hw hp_ hz_ hm_ hok35)))
                                (try simp only [← hl5_3])
                                go_roundg k3
                                case measure => have := HJ2.out; have := HK2.out; have := HK3.out; omega
                                case rel => exact ⟨(y237), (wrap64 (x46_3 + 1)), (by first | rfl | (simp; done) | (simp [*]; done)), H', ⟨by have := HJ2.out; have := HK2.out; have := HK3.out; omega⟩, ⟨by (try simp only [hl5_2]); (try simp only [hl5_3]); (with_reducible repeat (first | apply Kd.S_alloc | apply Kd.S_drewN | apply Kd.S_drew)); exact HO_5.out⟩, ⟨by repeat (first | (with_reducible first | exact HB.out | apply below_alloc | apply pw_below_drewN | apply below_drew1) | exact HB.out)⟩⟩
                              · rw [if_neg c33] at H
                                exact absurd H (by simp)
                            · rw [if_neg c32] at H
                              exact absurd H (by simp)
                          · rw [if_neg c31] at H
                            exact absurd H (by simp)
                        · rw [if_neg c30] at H
                          have c30b0 : decide (x46_3 < ((rd_L3 x5_2 0).length : Int)) = false := decide_eq_false c30
                          try have c30b8 := c30b0
                          try simp only [hl5_2] at c30b8
                          try simp only [hl5_3] at c30b8
                          clear c30
                          have H' := Aside0.mk H
                          clear H
                          go_wp2
                          repeat (go_quiet (fail); try go_wp2)
                          go_loopg [8] k3 (fun kq v8 w' => ∃ (x5_4 : List (List Int)) (x8_4 : Int), v8 = .int .i64 x8_4 ∧ Aside0 (impl_Far.l2 kq a0 a1 x5_4 x8_4 = some r) ∧ Aside0 (kq ≤ k3) ∧ Aside0 (Kd.S (Kd.slice 3 (Kd.int .i64)) 102 w' w.heap.size (fun _ => True) (.slice (some ad233) x5_3.length co13) x5_4) ∧ Aside0 (Below w.heap.size w w'))
                          case atStart => exact ⟨(x5_3), (1), (by first | rfl | (simp; done) | (simp [*]; done)), H', ⟨Nat.le_refl _⟩, ⟨by (try simp only [hl5_2]); (try simp only [hl5_3]); (with_reducible repeat (first | apply Kd.S_alloc | apply Kd.S_drewN | apply Kd.S_drew)); exact HO_5.out⟩, ⟨by repeat (first | (with_reducible first | exact HB.out | apply below_alloc | apply pw_below_drewN | apply below_drew1) | exact HB.out)⟩⟩
                          case round =>
                            clear H'
                            try clear c1
                            try clear c2
                            try clear p2
                            try clear q2
                            try clear hx2
                            try clear qi2
                            try clear hf2
                            try clear c3
                            try clear p3
                            try clear q3
                            try clear hx3
                            try clear hf3
                            try clear c4
                            try clear c5
                            try clear p6
                            try clear c7
                            try clear c9
                            try clear c9b0
                            try clear c9b1
                            try clear c10
                            try clear c10b0
                            try clear c10b1
                            try clear c14
                            try clear c14b0
                            try clear c16
                            try clear c16b0
                            try clear c16b1
                            try clear c17
                            try clear c17b0
                            try clear c17b1
                            try clear c18
                            try clear c18b0
                            try clear c19
                            try clear c19b0
                            try clear c20
                            try clear p20
                            try clear q20
                            try clear hx20
                            try clear hf20
                            try clear c21
                            try clear c21b0
                            try clear c21b1
                            try clear c22
                            try clear p22
                            try clear q22
                            try clear hx22
                            try clear qi22
                            try clear hf22
                            try clear c23
                            try clear p23
                            try clear q23
                            try clear hx23
                            try clear qi23
                            try clear c25
                            try clear hx25
                            try clear hf25
                            try clear c27
                            try clear q27
                            try clear c29
                            try clear c29b0
                            try clear c29b1
                            try clear c30
                            try clear c30b0
                            try clear c31
                            try clear c31b0
                            try clear c31b1
                            try clear c32
                            try clear c32b0
                            try clear c33
                            try clear c33b0
                            try clear p34
                            try clear q34
                            try clear hx34
                            try clear hf34
                            try clear c35
                            try clear q35
                            try clear hx20_0
                            try clear hx229_0
                            try clear hx22_0
                            try clear hx233_0
                            try clear hx234_0
                            try clear hx25_0
                            try clear hx34_0
                            try clear p2
                            try clear p20
                            try clear p22
                            try clear p229
                            try clear p23
                            try clear p233
                            try clear p234
                            try clear p34
                            try clear p6
                            try clear q2
                            try clear q20
                            try clear q22
                            try clear q229
                            try clear q23
                            try clear q233
                            try clear q234
                            try clear q27
                            try clear q34
                            obtain ⟨x5_4, x8_4, rfl, HA, HK4, HO_5, HB⟩ := hrel
                            have hl5_4 := (Kd.S_reads' HO_5.out).1
                            rw [hl5_4] at HO_5
                            (try simp only [hl5_4])
                            cases gk with
                            | zero => exact absurd HA.out (by simp [impl_Far.l2])
                            | succ k4 =>
                              have H := HA.out
                              clear HA
                              simp only [impl_Far.l2] at H
                              by_cases c37 : x8_4 ≤ (a0.size : Int)
                              · rw [if_pos c37] at H
                                have c37b0 : decide (x8_4 ≤ (a0.size : Int)) = true := decide_eq_true c37
                                clear c37
                                have H' := Aside0.mk H
                                clear H
                                go_wp2
                                repeat (go_quiet (fail); try go_wp2)
                                go_loopg [9] k4 (fun kq v9 w' => ∃ (x5_5 : List (List Int)) (x9_5 : Int), v9 = .int .i64 x9_5 ∧ Aside0 (impl_Far.l3 kq a0 a1 x5_5 x8_4 x9_5 = some r) ∧ Aside0 (kq ≤ k4) ∧ Aside0 (Kd.S (Kd.slice 3 (Kd.int .i64)) 102 w' w.heap.size (fun _ => True) (.slice (some ad233) x5_4.length co13) x5_5) ∧ Aside0 (Below w.heap.size w w'))
                                case atStart => exact ⟨(x5_4), (1), (by first | rfl | (simp; done) | (simp [*]; done)), H', ⟨Nat.le_refl _⟩, ⟨by (try simp only [hl5_2]); (try simp only [hl5_3]); (try simp only [hl5_4]); (with_reducible repeat (first | apply Kd.S_alloc | apply Kd.S_drewN | apply Kd.S_drew)); exact HO_5.out⟩, ⟨by repeat (first | (with_reducible first | exact HB.out | apply below_alloc | apply pw_below_drewN | apply below_drew1) | exact HB.out)⟩⟩
                                case round =>
                                  clear H'
                                  try clear c1
                                  try clear c2
                                  try clear p2
                                  try clear q2
                                  try clear hx2
                                  try clear qi2
                                  try clear hf2
                                  try clear c3
                                  try clear p3
                                  try clear q3
                                  try clear hx3
                                  try clear hf3
                                  try clear c4
                                  try clear c5
                                  try clear p6
                                  try clear c7
                                  try clear c9
                                  try clear c9b0
                                  try clear c9b1
                                  try clear c10
                                  try clear c10b0
                                  try clear c10b1
                                  try clear c14
                                  try clear c14b0
                                  try clear c16
                                  try clear c16b0
                                  try clear c16b1
                                  try clear c17
                                  try clear c17b0
                                  try clear c17b1
                                  try clear c18
                                  try clear c18b0
                                  try clear c19
                                  try clear c19b0
                                  try clear c20
                                  try clear p20
                                  try clear q20
                                  try clear hx20
                                  try clear hf20
                                  try clear c21
                                  try clear c21b0
                                  try clear c21b1
                                  try clear c22
                                  try clear p22
                                  try clear q22
                                  try clear hx22
                                  try clear qi22
                                  try clear hf22
                                  try clear c23
                                  try clear p23
                                  try clear q23
                                  try clear hx23
                                  try clear qi23
                                  try clear c25
                                  try clear hx25
                                  try clear hf25
                                  try clear c27
                                  try clear q27
                                  try clear c29
                                  try clear c29b0
                                  try clear c29b1
                                  try clear c30
                                  try clear c30b0
                                  try clear c31
                                  try clear c31b0
                                  try clear c31b1
                                  try clear c32
                                  try clear c32b0
                                  try clear c33
                                  try clear c33b0
                                  try clear p34
                                  try clear q34
                                  try clear hx34
                                  try clear hf34
                                  try clear c35
                                  try clear q35
                                  try clear c37
                                  try clear c37b0
                                  try clear hx20_0
                                  try clear hx229_0
                                  try clear hx22_0
                                  try clear hx233_0
                                  try clear hx234_0
                                  try clear hx25_0
                                  try clear hx34_0
                                  try clear p2
                                  try clear p20
                                  try clear p22
                                  try clear p229
                                  try clear p23
                                  try clear p233
                                  try clear p234
                                  try clear p3
                                  try clear p34
                                  try clear p6
                                  try clear q2
                                  try clear q20
                                  try clear q22
                                  try clear q229
                                  try clear q23
                                  try clear q233
                                  try clear q234
                                  try clear q27
                                  try clear q3
                                  try clear q34
                                  try clear q35
                                  obtain ⟨x5_5, x9_5, rfl, HA, HK5, HO_5, HB⟩ := hrel
                                  have hl5_5 := (Kd.S_reads' HO_5.out).1
                                  rw [hl5_5] at HO_5
                                  (try simp only [hl5_5])
                                  cases gk with
                                  | zero => exact absurd HA.out (by simp [impl_Far.l3])
                                  | succ k5 =>
                                    have H := HA.out
                                    clear HA
                                    simp only [impl_Far.l3] at H
                                    by_cases c38 : x9_5 ≤ (a1.size : Int)
                                    · rw [if_pos c38] at H
                                      have c38b0 : decide (x9_5 ≤ (a1.size : Int)) = true := decide_eq_true c38
                                      clear c38
                                      obtain ⟨ji39, hji39⟩ : ∃ j_ : Int, (wrap64 (x8_4 - 1)) = j_ := ⟨_, rfl⟩
                                      replace H : (if 0 ≤ (ji39) then (if (ji39) < (x5_5.length : Int) then (if 0 ≤ (wrap64 (x9_5 - 1)) then (if (wrap64 (x9_5 - 1)) < ((rd_L3 x5_5 (ji39)).length : Int) then (if (ji39) < (a0.size : Int) then (if (wrap64 (x9_5 - 1)) < (a1.size : Int) then (if (bt a0 (ji39)) = (bt a1 (wrap64 (x9_5 - 1))) then (impl_Far.j5 k5 a0 a1 x5_5 x8_4 x9_5 (rd (rd_L3 x5_5 (ji39)) (wrap64 (x9_5 - 1)))) else (impl_Far.j5 k5 a0 a1 x5_5 x8_4 x9_5 (wrap64 ((rd (rd_L3 x5_5 (ji39)) (wrap64 (x9_5 - 1))) + 1)))) else (none)) else (none)) else (none)) else (none)) else (none)) else (none)) = some r := by first | (rw [hji39] at H; exact H) | (simp only [hji39] at H ⊢; exact H)
                                      have hji39w : (IntKind.i64.wrap (x8_4 - 1)) = ji39 := (i64_w _).trans hji39
                                      by_cases c40 : 0 ≤ (ji39)
                                      · rw [if_pos c40] at H
                                        have c40b0 : decide (0 ≤ (ji39)) = true := decide_eq_true c40
                                        clear c40
                                        by_cases c41 : (ji39) < (x5_5.length : Int)
                                        · rw [if_pos c41] at H
                                          have c41b0 : decide ((ji39) < (x5_5.length : Int)) = true := decide_eq_true c41
                                          try have c41b8 := c41b0
                                          try simp only [hl5_2] at c41b8
                                          try simp only [hl5_3] at c41b8
                                          try simp only [hl5_4] at c41b8
                                          try simp only [hl5_5] at c41b8
                                          clear c41
                                          obtain ⟨ji42, hji42⟩ : ∃ j_ : Int, (wrap64 (x9_5 - 1)) = j_ := ⟨_, rfl⟩
                                          replace H : (if 0 ≤ (ji42) then (if (ji42) < ((rd_L3 x5_5 (ji39)).length : Int) then (if (ji39) < (a0.size : Int) then (if (ji42) < (a1.size : Int) then (if (bt a0 (ji39)) = (bt a1 (ji42)) then (impl_Far.j5 k5 a0 a1 x5_5 x8_4 x9_5 (rd (rd_L3 x5_5 (ji39)) (ji42))) else (impl_Far.j5 k5 a0 a1 x5_5 x8_4 x9_5 (wrap64 ((rd (rd_L3 x5_5 (ji39)) (ji42)) + 1)))) else (none)) else (none)) else (none)) else (none)) = some r := by first | (rw [hji42] at H; exact H) | (simp only [hji42] at H ⊢; exact H)
                                          have hji42w : (IntKind.i64.wrap (x9_5 - 1)) = ji42 := (i64_w _).trans hji42
                                          by_cases c43 : 0 ≤ (ji42)
                                          · rw [if_pos c43] at H
                                            have c43b0 : decide (0 ≤ (ji42)) = true := decide_eq_true c43
                                            clear c43
                                            by_cases c44 : (ji42) < ((rd_L3 x5_5 (ji39)).length : Int)
                                            · rw [if_pos c44] at H
                                              have c44b0 : decide ((ji42) < ((rd_L3 x5_5 (ji39)).length : Int)) = true := decide_eq_true c44
                                              try have c44b8 := c44b0
                                              try simp only [hl5_2] at c44b8
                                              try simp only [hl5_3] at c44b8
                                              try simp only [hl5_4] at c44b8
                                              try simp only [hl5_5] at c44b8
                                              clear c44
                                              by_cases c45 : (ji39) < (a0.size : Int)
                                              · rw [if_pos c45] at H
                                                have c45b0 : decide ((ji39) < (a0.size : Int)) = true := decide_eq_true c45
                                                clear c45
                                                by_cases c47 : (ji42) < (a1.size : Int)
                                                · rw [if_pos c47] at H
                                                  have c47b0 : decide ((ji42) < (a1.size : Int)) = true := decide_eq_true c47
                                                  clear c47
                                                  have HC49 := Aside0.mk H
                                                  clear H
                                                  have p240 : 0 ≤ ((ji39) : Int) := of_decide_eq_true (by first | (with_reducible assumption) | assumption)
                                                  have q240 : (ji39) < (x5_5.length : Int) := of_decide_eq_true (by first | (with_reducible assumption) | assumption)
                                                  obtain ⟨ad240, A240_0, c240_0, e240, hx240_0, hl240_0, hi240_0⟩ := at_L3 (Kd.S_reads' HO_5.out).2.2 (ji39) p240 q240
                                                  obtain rfl : ad233 = ad240 := (by injection e240)
                                                  obtain ⟨ce240, hce240, hMe240, hcc240⟩ := Kd.S_get HO_5.out [] (ji39) p240 (by first | exact q240 | exact of_decide_eq_true (by first | (with_reducible assumption) | assumption) | (have e_ := (Kd.S_reads' HO_5.out).1; omega))
                                                  obtain ⟨ve240_0, rfl, ge240_0⟩ := hMe240
                                                  have hv240_0 := hcc240 0 _ rfl
                                                  rw [Nat.add_zero, show ((Kd.slice 3 (Kd.int .i64))).sz = 1 from rfl, Nat.mul_one] at hv240_0
                                                  replace hv240_0 := Option.some.inj (hv240_0.symm.trans hx240_0)
                                                  rw [hv240_0] at ge240_0
                                                  have HL240_0 := Aside0.mk (show Kd.R (Kd.int .i64) 3 _ _ _ _ (rd_L3 x5_5 (ji39)) from ge240_0)
                                                  clear hv240_0 ge240_0
                                                  have HX240_0 := Aside0.mk hx240_0
                                                  clear hcc240 hce240
                                                  have HR240_0 := Aside0.mk hi240_0
                                                  have HC240_0 := Aside0.mk hl240_0
                                                  clear hi240_0 hl240_0
                                                  replace p240 := eq_true p240
                                                  replace q240 := eq_true q240
                                                  have p241 : 0 ≤ ((ji42) : Int) := of_decide_eq_true (by first | (with_reducible assumption) | assumption)
                                                  have q241 : (ji42) < ((rd_L3 x5_5 (ji39)).length : Int) := of_decide_eq_true (by first | (with_reducible assumption) | assumption)
                                                  obtain ⟨ad241, e241, hx241_0⟩ := Kd.at_int (by repeat (first | (with_reducible exact HR240_0.out) | (with_reducible refine Kd.C_alloc ?_ _) | (with_reducible refine Kd.C_drewN ?_ _) | (with_reducible refine Kd.C_drew ?_) | exact HR240_0.out)) (ji42) p241 q241
                                                  cases e241
                                                  replace p241 := eq_true p241
                                                  replace q241 := eq_true q241
                                                  have p46 : 0 ≤ ((ji39) : Int) := of_decide_eq_true (by first | (with_reducible assumption) | assumption)
                                                  have q46 : (ji39) < (a0.size : Int) := of_decide_eq_true (by first | (with_reducible assumption) | assumption)
                                                  have hx46 := bt_at a0 (ji39)
                                                  replace p46 := eq_true p46
                                                  replace q46 := eq_true q46
                                                  have p48 : 0 ≤ ((ji42) : Int) := of_decide_eq_true (by first | (with_reducible assumption) | assumption)
                                                  have q48 : (ji42) < (a1.size : Int) := of_decide_eq_true (by first | (with_reducible assumption) | assumption)
                                                  have hx48 := bt_at a1 (ji42)
                                                  replace p48 := eq_true p48
                                                  replace q48 := eq_true q48
                                                  go_upto_if 85 with (fail)
                                                  repeat (go_quiet (fail); go_upto_if 85 with (fail))
                                                  go_cut [10] (fun v10 wc => ∃ (kq : Nat) (x10_48 : Int), v10 = .int .i64 x10_48 ∧ Aside0 (impl_Far.j5 kq a0 a1 x5_5 x8_4 x9_5 x10_48 = some r) ∧ Aside0 (kq ≤ k5) ∧ Aside0 (Kd.S (Kd.slice 3 (Kd.int .i64)) 102 wc w.heap.size (fun _ => True) (.slice (some ad233) x5_5.length co13) x5_5) ∧ Aside0 (Kd.C (Kd.int .i64) wc (some ad241) (rd_L3 x5_5 (ji39)).length (rd_L3 x5_5 (ji39))) ∧ Aside0 (Below w.heap.size w wc))
                                                  case first =>
                                                    have H := HC49.out
                                                    clear HC49
                                                    by_cases c50 : (bt a0 (ji39)) = (bt a1 (ji42))
                                                    · rw [if_pos c50] at H
                                                      have c50b0 : ((bt a0 (ji39)) == (bt a1 (ji42))) = true := beq_iff_eq.mpr c50
                                                      have c50b1 : ((bt a0 (ji39)) != (bt a1 (ji42))) = false := bne_eq_false_iff_eq.mpr c50
                                                      clear c50
                                                      (first | rw [c50b0] | (simp only [i64_w, i32_w]; rw [c50b0]) | skip)
                                                      have H' := Aside0.mk H
                                                      clear H
                                                      go_wp2
                                                      repeat (go_quiet (fail); try go_wp2)
                                                      go_meet
                                                      case rel => exact ⟨_, (rd (rd_L3 x5_5 (ji39)) (ji42)), (by first | rfl | (simp; done) | (simp only [← hji39, ← hji42] <;> (first | rfl | simp)) | (simp [*]; done)), H', ⟨by have := HJ2.out; have := HK2.out; have := HK3.out; have := HK4.out; have := HK5.out; first | omega | exact Nat.le_refl _⟩, ⟨by (try simp only [hl5_2]); (try simp only [hl5_3]); (try simp only [hl5_4]); (try simp only [hl5_5]); (with_reducible repeat (first | apply Kd.S_alloc | apply Kd.S_drewN | apply Kd.S_drew)); exact HO_5.out⟩, ⟨by repeat (first | (with_reducible exact HR240_0.out) | (with_reducible refine Kd.C_alloc ?_ _) | (with_reducible refine Kd.C_drewN ?_ _) | (with_reducible refine Kd.C_drew ?_) | exact HR240_0.out)⟩, ⟨by repeat (first | (with_reducible first | exact HB.out | apply below_alloc | apply pw_below_drewN | apply below_drew1) | exact HB.out)⟩⟩
                                                    · rw [if_neg c50] at H
                                                      have c50b0 : ((bt a0 (ji39)) == (bt a1 (ji42))) = false := beq_eq_false_iff_ne.mpr c50
                                                      have c50b1 : ((bt a0 (ji39)) != (bt a1 (ji42))) = true := bne_iff_ne.mpr c50
                                                      (first | rw [c50b0] | (simp only [i64_w, i32_w]; rw [c50b0]) | skip)
                                                      have H' := Aside0.mk H
                                                      clear H
                                                      go_wp2
                                                      repeat (go_quiet (fail); try go_wp2)
                                                      go_meet
                                                      case rel => exact ⟨_, (wrap64 ((rd (rd_L3 x5_5 (ji39)) (ji42)) + 1)), (by first | rfl | (simp; done) | (simp only [← hji39, ← hji42] <;> (first | rfl | simp)) | (simp [*]; done)), H', ⟨by have := HJ2.out; have := HK2.out; have := HK3.out; have := HK4.out; have := HK5.out; first | omega | exact Nat.le_refl _⟩, ⟨by (try simp only [hl5_2]); (try simp only [hl5_3]); (try simp only [hl5_4]); (try simp only [hl5_5]); (with_reducible repeat (first | apply Kd.S_alloc | apply Kd.S_drewN | apply Kd.S_drew)); exact HO_5.out⟩, ⟨by repeat (first | (with_reducible exact HR240_0.out) | (with_reducible refine Kd.C_alloc ?_ _) | (with_reducible refine Kd.C_drewN ?_ _) | (with_reducible refine Kd.C_drew ?_) | exact HR240_0.out)⟩, ⟨by repeat (first | (with_reducible first | exact HB.out | apply below_alloc | apply pw_below_drewN | apply below_drew1) | exact HB.out)⟩⟩
                                                  case rest =>
                                                    clear HC49
                                                    try clear c1
                                                    try clear c2
                                                    try clear p2
                                                    try clear q2
                                                    try clear hx2
                                                    try clear qi2
                                                    try clear hf2
                                                    try clear c3
                                                    try clear p3
                                                    try clear q3
                                                    try clear hx3
                                                    try clear hf3
                                                    try clear c4
                                                    try clear p4
                                                    try clear q4
                                                    try clear hx4
                                                    try clear c5
                                                    try clear p6
                                                    try clear c7
                                                    try clear c9
                                                    try clear c9b0
                                                    try clear c9b1
                                                    try clear c10
                                                    try clear c10b0
                                                    try clear c10b1
                                                    try clear c14
                                                    try clear c14b0
                                                    try clear c16
                                                    try clear c16b0
                                                    try clear c16b1
                                                    try clear c17
                                                    try clear c17b0
                                                    try clear c17b1
                                                    try clear c18
                                                    try clear c18b0
                                                    try clear c19
                                                    try clear c19b0
                                                    try clear c20
                                                    try clear p20
                                                    try clear q20
                                                    try clear hx20
                                                    try clear hf20
                                                    try clear c21
                                                    try clear c21b0
                                                    try clear c21b1
                                                    try clear c22
                                                    try clear p22
                                                    try clear q22
                                                    try clear hx22
                                                    try clear qi22
                                                    try clear hf22
                                                    try clear c23
                                                    try clear p23
                                                    try clear q23
                                                    try clear hx23
                                                    try clear qi23
                                                    try clear c24
                                                    try clear p24
                                                    try clear q24
                                                    try clear hx24
                                                    try clear c25
                                                    try clear hx25
                                                    try clear hf25
                                                    try clear c27
                                                    try clear q27
                                                    try clear c29
                                                    try clear c29b0
                                                    try clear c29b1
                                                    try clear c30
                                                    try clear c30b0
                                                    try clear c31
                                                    try clear c31b0
                                                    try clear c31b1
                                                    try clear c32
                                                    try clear c32b0
                                                    try clear c33
                                                    try clear c33b0
                                                    try clear p34
                                                    try clear q34
                                                    try clear hx34
                                                    try clear hf34
                                                    try clear c35
                                                    try clear q35
                                                    try clear c37
                                                    try clear c37b0
                                                    try clear c38
                                                    try clear c38b0
                                                    try clear c40
                                                    try clear c40b0
                                                    try clear c41
                                                    try clear c41b0
                                                    try clear c43
                                                    try clear c43b0
                                                    try clear c44
                                                    try clear c44b0
                                                    try clear c45
                                                    try clear c45b0
                                                    try clear p46
                                                    try clear q46
                                                    try clear hx46
                                                    try clear c47
                                                    try clear c47b0
                                                    try clear p48
                                                    try clear q48
                                                    try clear hx48
                                                    try clear c50
                                                    try clear c50b0
                                                    try clear c50b1
                                                    try clear hx20_0
                                                    try clear hx229_0
                                                    try clear hx22_0
                                                    try clear hx233_0
                                                    try clear hx234_0
                                                    try clear hx240_0
                                                    try clear hx241_0
                                                    try clear hx25_0
                                                    try clear hx34_0
                                                    try clear p2
                                                    try clear p20
                                                    try clear p22
                                                    try clear p229
                                                    try clear p23
                                                    try clear p233
                                                    try clear p234
                                                    try clear p240
                                                    try clear p241
                                                    try clear p3
                                                    try clear p34
                                                    try clear p46
                                                    try clear p48
                                                    try clear p6
                                                    try clear q2
                                                    try clear q20
                                                    try clear q22
                                                    try clear q229
                                                    try clear q23
                                                    try clear q233
                                                    try clear q234
                                                    try clear q240
                                                    try clear q241
                                                    try clear q27
                                                    try clear q3
                                                    try clear q34
                                                    try clear q35
                                                    try clear q46
                                                    try clear q48
                                                    obtain ⟨kq, x10_48, rfl, HA, HJ48, HO_5, HR240_0, HB⟩ := hcut
                                                    cases kq with
                                                    | zero => exact absurd HA.out (by simp [impl_Far.j5])
                                                    | succ kj48 =>
                                                      have H := HA.out
                                                      clear HA
                                                      simp only [impl_Far.j5] at H
                                                      obtain ⟨ji51, hji51⟩ : ∃ j_ : Int, (wrap64 (x8_4 - 1)) = j_ := ⟨_, rfl⟩
                                                      replace H : (if 0 ≤ (ji51) then (if (ji51) < (x5_5.length : Int) then (if 0 ≤ x9_5 then (if x9_5 < ((rd_L3 x5_5 (ji51)).length : Int) then (if 0 ≤ x8_4 then (if x8_4 < (x5_5.length : Int) then (if 0 ≤ (wrap64 (x9_5 - 1)) then (if (wrap64 (x9_5 - 1)) < ((rd_L3 x5_5 x8_4).length : Int) then (if x8_4 > 1 then (if x9_5 > 1 then (if (ji51) < (a0.size : Int) then (if 0 ≤ (wrap64 (x9_5 - 2)) then (if (wrap64 (x9_5 - 2)) < (a1.size : Int) then (if (bt a0 (ji51)) = (bt a1 (wrap64 (x9_5 - 2))) then (if 0 ≤ (wrap64 (x8_4 - 2)) then (if (wrap64 (x8_4 - 2)) < (a0.size : Int) then (if (wrap64 (x9_5 - 1)) < (a1.size : Int) then (impl_Far.j6 kj48 a0 a1 x5_5 x8_4 x9_5 (mn (mn x10_48 (wrap64 ((rd (rd_L3 x5_5 (ji51)) x9_5) + 1))) (wrap64 ((rd (rd_L3 x5_5 x8_4) (wrap64 (x9_5 - 1))) + 1))) ((bt a0 (wrap64 (x8_4 - 2))) == (bt a1 (wrap64 (x9_5 - 1))))) else (none)) else (none)) else (none)) else (impl_Far.j6 kj48 a0 a1 x5_5 x8_4 x9_5 (mn (mn x10_48 (wrap64 ((rd (rd_L3 x5_5 (ji51)) x9_5) + 1))) (wrap64 ((rd (rd_L3 x5_5 x8_4) (wrap64 (x9_5 - 1))) + 1))) false)) else (none)) else (none)) else (none)) else (impl_Far.j6 kj48 a0 a1 x5_5 x8_4 x9_5 (mn (mn x10_48 (wrap64 ((rd (rd_L3 x5_5 (ji51)) x9_5) + 1))) (wrap64 ((rd (rd_L3 x5_5 x8_4) (wrap64 (x9_5 - 1))) + 1))) false)) else (impl_Far.j6 kj48 a0 a1 x5_5 x8_4 x9_5 (mn (mn x10_48 (wrap64 ((rd (rd_L3 x5_5 (ji51)) x9_5) + 1))) (wrap64 ((rd (rd_L3 x5_5 x8_4) (wrap64 (x9_5 - 1))) + 1))) false)) else (none)) else (none)) else (none)) else (none)) else (none)) else (none)) else (none)) else (none)) = some r := by first | (rw [hji51] at H; exact H) | (simp only [hji51] at H ⊢; exact H)
                                                      have hji51w : (IntKind.i64.wrap (x8_4 - 1)) = ji51 := (i64_w _).trans hji51
                                                      (try clear hji39w)
                                                      by_cases c52 : 0 ≤ (ji51)
                                                      · rw [if_pos c52] at H
                                                        have c52b0 : decide (0 ≤ (ji51)) = true := decide_eq_true c52
                                                        clear c52
                                                        by_cases c53 : (ji51) < (x5_5.length : Int)
                                                        · rw [if_pos c53] at H
                                                          have c53b0 : decide ((ji51) < (x5_5.length : Int)) = true := decide_eq_true c53
                                                          try have c53b8 := c53b0
                                                          try simp only [hl5_2] at c53b8
                                                          try simp only [hl5_3] at c53b8
                                                          try simp only [hl5_4] at c53b8
                                                          try simp only [hl5_5] at c53b8
                                                          clear c53
                                                          by_cases c54 : 0 ≤ x9_5
                                                          · rw [if_pos c54] at H
                                                            have c54b0 : decide (0 ≤ x9_5) = true := decide_eq_true c54
                                                            clear c54
                                                            by_cases c55 : x9_5 < ((rd_L3 x5_5 (ji51)).length : Int)
                                                            · rw [if_pos c55] at H
                                                              have c55b0 : decide (x9_5 < ((rd_L3 x5_5 (ji51)).length : Int)) = true := decide_eq_true c55
                                                              try have c55b8 := c55b0
                                                              try simp only [hl5_2] at c55b8
                                                              try simp only [hl5_3] at c55b8
                                                              try simp only [hl5_4] at c55b8
                                                              try simp only [hl5_5] at c55b8
                                                              clear c55
                                                              by_cases c56 : 0 ≤ x8_4
                                                              · rw [if_pos c56] at H
                                                                have c56b0 : decide (0 ≤ x8_4) = true := decide_eq_true c56
                                                                clear c56
                                                                by_cases c57 : x8_4 < (x5_5.length : Int)
                                                                · rw [if_pos c57] at H
                                                                  have c57b0 : decide (x8_4 < (x5_5.length : Int)) = true := decide_eq_true c57
                                                                  try have c57b8 := c57b0
                                                                  try simp only [hl5_2] at c57b8
                                                                  try simp only [hl5_3] at c57b8
                                                                  try simp only [hl5_4] at c57b8
                                                                  try simp only [hl5_5] at c57b8
                                                                  clear c57
                                                                  obtain ⟨ji58, hji58⟩ : ∃ j_ : Int, (wrap64 (x9_5 - 1)) = j_ := ⟨_, rfl⟩
                                                                  replace H : (if 0 ≤ (ji58) then (if (ji58) < ((rd_L3 x5_5 x8_4).length : Int) then (if x8_4 > 1 then (if x9_5 > 1 then (if (ji51) < (a0.size : Int) then (if 0 ≤ (wrap64 (x9_5 - 2)) then (if (wrap64 (x9_5 - 2)) < (a1.size : Int) then (if (bt a0 (ji51)) = (bt a1 (wrap64 (x9_5 - 2))) then (if 0 ≤ (wrap64 (x8_4 - 2)) then (if (wrap64 (x8_4 - 2)) < (a0.size : Int) then (if (ji58) < (a1.size : Int) then (impl_Far.j6 kj48 a0 a1 x5_5 x8_4 x9_5 (mn (mn x10_48 (wrap64 ((rd (rd_L3 x5_5 (ji51)) x9_5) + 1))) (wrap64 ((rd (rd_L3 x5_5 x8_4) (ji58)) + 1))) ((bt a0 (wrap64 (x8_4 - 2))) == (bt a1 (ji58)))) else (none)) else (none)) else (none)) else (impl_Far.j6 kj48 a0 a1 x5_5 x8_4 x9_5 (mn (mn x10_48 (wrap64 ((rd (rd_L3 x5_5 (ji51)) x9_5) + 1))) (wrap64 ((rd (rd_L3 x5_5 x8_4) (ji58)) + 1))) false)) else (none)) else (none)) else (none)) else (impl_Far.j6 kj48 a0 a1 x5_5 x8_4 x9_5 (mn (mn x10_48 (wrap64 ((rd (rd_L3 x5_5 (ji51)) x9_5) + 1))) (wrap64 ((rd (rd_L3 x5_5 x8_4) (ji58)) + 1))) false)) else (impl_Far.j6 kj48 a0 a1 x5_5 x8_4 x9_5 (mn (mn x10_48 (wrap64 ((rd (rd_L3 x5_5 (ji51)) x9_5) + 1))) (wrap64 ((rd (rd_L3 x5_5 x8_4) (ji58)) + 1))) false)) else (none)) else (none)) = some r := by first | (rw [hji58] at H; exact H) | (simp only [hji58] at H ⊢; exact H)
                                                                  have hji58w : (IntKind.i64.wrap (x9_5 - 1)) = ji58 := (i64_w _).trans hji58
                                                                  (try clear hji42w)
                                                                  by_cases c59 : 0 ≤ (ji58)
                                                                  · rw [if_pos c59] at H
                                                                    have c59b0 : decide (0 ≤ (ji58)) = true := decide_eq_true c59
                                                                    clear c59
                                                                    by_cases c60 : (ji58) < ((rd_L3 x5_5 x8_4).length : Int)
                                                                    · rw [if_pos c60] at H
                                                                      have c60b0 : decide ((ji58) < ((rd_L3 x5_5 x8_4).length : Int)) = true := decide_eq_true c60
                                                                      try have c60b8 := c60b0
                                                                      try simp only [hl5_2] at c60b8
                                                                      try simp only [hl5_3] at c60b8
                                                                      try simp only [hl5_4] at c60b8
                                                                      try simp only [hl5_5] at c60b8
                                                                      clear c60
                                                                      obtain ⟨ji61, hji61⟩ : ∃ j_ : Int, (mn x10_48 (wrap64 ((rd (rd_L3 x5_5 (ji51)) x9_5) + 1))) = j_ := ⟨_, rfl⟩
                                                                      replace H : (if x8_4 > 1 then (if x9_5 > 1 then (if (ji51) < (a0.size : Int) then (if 0 ≤ (wrap64 (x9_5 - 2)) then (if (wrap64 (x9_5 - 2)) < (a1.size : Int) then (if (bt a0 (ji51)) = (bt a1 (wrap64 (x9_5 - 2))) then (if 0 ≤ (wrap64 (x8_4 - 2)) then (if (wrap64 (x8_4 - 2)) < (a0.size : Int) then (if (ji58) < (a1.size : Int) then (impl_Far.j6 kj48 a0 a1 x5_5 x8_4 x9_5 (mn (ji61) (wrap64 ((rd (rd_L3 x5_5 x8_4) (ji58)) + 1))) ((bt a0 (wrap64 (x8_4 - 2))) == (bt a1 (ji58)))) else (none)) else (none)) else (none)) else (impl_Far.j6 kj48 a0 a1 x5_5 x8_4 x9_5 (mn (ji61) (wrap64 ((rd (rd_L3 x5_5 x8_4) (ji58)) + 1))) false)) else (none)) else (none)) else (none)) else (impl_Far.j6 kj48 a0 a1 x5_5 x8_4 x9_5 (mn (ji61) (wrap64 ((rd (rd_L3 x5_5 x8_4) (ji58)) + 1))) false)) else (impl_Far.j6 kj48 a0 a1 x5_5 x8_4 x9_5 (mn (ji61) (wrap64 ((rd (rd_L3 x5_5 x8_4) (ji58)) + 1))) false)) = some r := by first | (rw [hji61] at H; exact H) | (simp only [hji61] at H ⊢; exact H)
                                                                      have hji61_ : (if (wrap64 ((rd (rd_L3 x5_5 (ji51)) x9_5) + 1)) < x10_48 then (wrap64 ((rd (rd_L3 x5_5 (ji51)) x9_5) + 1)) else x10_48) = ji61 := hji61
                                                                      obtain ⟨ji62, hji62⟩ : ∃ j_ : Int, (mn (ji61) (wrap64 ((rd (rd_L3 x5_5 x8_4) (ji58)) + 1))) = j_ := ⟨_, rfl⟩
                                                                      replace H : (if x8_4 > 1 then (if x9_5 > 1 then (if (ji51) < (a0.size : Int) then (if 0 ≤ (wrap64 (x9_5 - 2)) then (if (wrap64 (x9_5 - 2)) < (a1.size : Int) then (if (bt a0 (ji51)) = (bt a1 (wrap64 (x9_5 - 2))) then (if 0 ≤ (wrap64 (x8_4 - 2)) then (if (wrap64 (x8_4 - 2)) < (a0.size : Int) then (if (ji58) < (a1.size : Int) then (impl_Far.j6 kj48 a0 a1 x5_5 x8_4 x9_5 ji62 ((bt a0 (wrap64 (x8_4 - 2))) == (bt a1 (ji58)))) else (none)) else (none)) else (none)) else (impl_Far.j6 kj48 a0 a1 x5_5 x8_4 x9_5 ji62 false)) else (none)) else (none)) else (none)) else (impl_Far.j6 kj48 a0 a1 x5_5 x8_4 x9_5 ji62 false)) else (impl_Far.j6 kj48 a0 a1 x5_5 x8_4 x9_5 ji62 false)) = some r := by first | (rw [hji62] at H; exact H) | (simp only [hji62] at H ⊢; exact H)
                                                                      have hji62_ : (if (wrap64 ((rd (rd_L3 x5_5 x8_4) (ji58)) + 1)) < (ji61) then (wrap64 ((rd (rd_L3 x5_5 x8_4) (ji58)) + 1)) else (ji61)) = ji62 := hji62
                                                                      have HC63 := Aside0.mk H
                                                                      clear H
                                                                      have p242 : 0 ≤ ((ji51) : Int) := of_decide_eq_true (by first | (with_reducible assumption) | assumption)
                                                                      have q242 : (ji51) < (x5_5.length : Int) := of_decide_eq_true (by first | (with_reducible assumption) | assumption)
                                                                      obtain ⟨ad242, A242_0, c242_0, e242, hx242_0, hl242_0, hi242_0⟩ := at_L3 (Kd.S_reads' HO_5.out).2.2 (ji51) p242 q242
                                                                      obtain rfl : ad233 = ad242 := (by injection e242)
                                                                      obtain ⟨ce242, hce242, hMe242, hcc242⟩ := Kd.S_get HO_5.out [] (ji51) p242 (by first | exact q242 | exact of_decide_eq_true (by first | (with_reducible assumption) | assumption) | (have e_ := (Kd.S_reads' HO_5.out).1; omega))
                                                                      obtain ⟨ve242_0, rfl, ge242_0⟩ := hMe242
                                                                      have hv242_0 := hcc242 0 _ rfl
                                                                      rw [Nat.add_zero, show ((Kd.slice 3 (Kd.int .i64))).sz = 1 from rfl, Nat.mul_one] at hv242_0
                                                                      replace hv242_0 := Option.some.inj (hv242_0.symm.trans hx242_0)
                                                                      rw [hv242_0] at ge242_0
                                                                      have HL242_0 := Aside0.mk (show Kd.R (Kd.int .i64) 3 _ _ _ _ (rd_L3 x5_5 (ji51)) from ge242_0)
                                                                      clear hv242_0 ge242_0
                                                                      have HX242_0 := Aside0.mk hx242_0
                                                                      clear hcc242 hce242
                                                                      have HR242_0 := Aside0.mk hi242_0
                                                                      have HC242_0 := Aside0.mk hl242_0
                                                                      clear hi242_0 hl242_0
                                                                      replace p242 := eq_true p242
                                                                      replace q242 := eq_true q242
                                                                      have p243 : 0 ≤ (x9_5 : Int) := of_decide_eq_true (by first | (with_reducible assumption) | assumption)
                                                                      have q243 : x9_5 < ((rd_L3 x5_5 (ji51)).length : Int) := of_decide_eq_true (by first | (with_reducible assumption) | assumption)
                                                                      obtain ⟨ad243, e243, hx243_0⟩ := Kd.at_int (by repeat (first | (with_reducible exact HR242_0.out) | (with_reducible refine Kd.C_alloc ?_ _) | (with_reducible refine Kd.C_drewN ?_ _) | (with_reducible refine Kd.C_drew ?_) | exact HR242_0.out)) x9_5 p243 q243
                                                                      cases e243
                                                                      replace p243 := eq_true p243
                                                                      replace q243 := eq_true q243
                                                                      have p244 : 0 ≤ (x8_4 : Int) := of_decide_eq_true (by first | (with_reducible assumption) | assumption)
                                                                      have q244 : x8_4 < (x5_5.length : Int) := of_decide_eq_true (by first | (with_reducible assumption) | assumption)
                                                                      obtain ⟨ad244, A244_0, c244_0, e244, hx244_0, hl244_0, hi244_0⟩ := at_L3 (Kd.S_reads' HO_5.out).2.2 x8_4 p244 q244
                                                                      obtain rfl : ad233 = ad244 := (by injection e244)
                                                                      obtain ⟨ce244, hce244, hMe244, hcc244⟩ := Kd.S_get HO_5.out [] x8_4 p244 (by first | exact q244 | exact of_decide_eq_true (by first | (with_reducible assumption) | assumption) | (have e_ := (Kd.S_reads' HO_5.out).1; omega))
                                                                      obtain ⟨ve244_0, rfl, ge244_0⟩ := hMe244
                                                                      have hv244_0 := hcc244 0 _ rfl
                                                                      rw [Nat.add_zero, show ((Kd.slice 3 (Kd.int .i64))).sz = 1 from rfl, Nat.mul_one] at hv244_0
                                                                      replace hv244_0 := Option.some.inj (hv244_0.symm.trans hx244_0)
                                                                      rw [hv244_0] at ge244_0
                                                                      have HL244_0 := Aside0.mk (show Kd.R (Kd.int .i64) 3 _ _ _ _ (rd_L3 x5_5 x8_4) from ge244_0)
                                                                      clear hv244_0 ge244_0
                                                                      have HX244_0 := Aside0.mk hx244_0
                                                                      clear hcc244 hce244
                                                                      have HR244_0 := Aside0.mk hi244_0
                                                                      have HC244_0 := Aside0.mk hl244_0
                                                                      clear hi244_0 hl244_0
                                                                      replace p244 := eq_true p244
                                                                      replace q244 := eq_true q244
                                                                      have p245 : 0 ≤ ((ji58) : Int) := of_decide_eq_true (by first | (with_reducible assumption) | assumption)
                                                                      have q245 : (ji58) < ((rd_L3 x5_5 x8_4).length : Int) := of_decide_eq_true (by first | (with_reducible assumption) | assumption)
                                                                      obtain ⟨ad245, e245, hx245_0⟩ := Kd.at_int (by repeat (first | (with_reducible exact HR244_0.out) | (with_reducible refine Kd.C_alloc ?_ _) | (with_reducible refine Kd.C_drewN ?_ _) | (with_reducible refine Kd.C_drew ?_) | exact HR244_0.out)) (ji58) p245 q245
                                                                      cases e245
                                                                      replace p245 := eq_true p245
                                                                      replace q245 := eq_true q245
                                                                      go_upto_region 25 with (fail)
                                                                      repeat (go_quiet (fail); go_upto_region 25 with (fail))
                                                                      go_cut [135] (fun v135 wc => ∃ (kq : Nat) (x135_62 : Bool), v135 = .bool x135_62 ∧ Aside0 (impl_Far.j6 kq a0 a1 x5_5 x8_4 x9_5 ji62 x135_62 = some r) ∧ Aside0 (kq ≤ kj48) ∧ Aside0 (Kd.S (Kd.slice 3 (Kd.int .i64)) 102 wc w.heap.size (fun _ => True) (.slice (some ad233) x5_5.length co13) x5_5) ∧ Aside0 (Kd.C (Kd.int .i64) wc (some ad241) (rd_L3 x5_5 (ji39)).length (rd_L3 x5_5 (ji39))) ∧ Aside0 (Kd.C (Kd.int .i64) wc (some ad243) (rd_L3 x5_5 (ji51)).length (rd_L3 x5_5 (ji51))) ∧ Aside0 (Kd.C (Kd.int .i64) wc (some ad245) (rd_L3 x5_5 x8_4).length (rd_L3 x5_5 x8_4)) ∧ Aside0 (Below w.heap.size w wc))
                                                                      case first =>
                                                                        have H := HC63.out
                                                                        clear HC63
                                                                        by_cases c64 : x8_4 > 1
                                                                        · rw [if_pos c64] at H
                                                                          have c64b0 : decide (1 < x8_4) = true := decide_eq_true c64
                                                                          clear c64
                                                                          (first | rw [c64b0] | (simp only [i64_w, i32_w]; rw [c64b0]) | skip)
                                                                          by_cases c65 : x9_5 > 1
                                                                          · rw [if_pos c65] at H
                                                                            have c65b0 : decide (1 < x9_5) = true := decide_eq_true c65
                                                                            clear c65
                                                                            by_cases c66 : (ji51) < (a0.size : Int)
                                                                            · rw [if_pos c66] at H
                                                                              have c66b0 : decide ((ji51) < (a0.size : Int)) = true := decide_eq_true c66
                                                                              clear c66
                                                                              obtain ⟨ji68, hji68⟩ : ∃ j_ : Int, (wrap64 (x9_5 - 2)) = j_ := ⟨_, rfl⟩
                                                                              replace H : (if 0 ≤ (ji68) then (if (ji68) < (a1.size : Int) then (if (bt a0 (ji51)) = (bt a1 (ji68)) then (if 0 ≤ (wrap64 (x8_4 - 2)) then (if (wrap64 (x8_4 - 2)) < (a0.size : Int) then (if (ji58) < (a1.size : Int) then (impl_Far.j6 kj48 a0 a1 x5_5 x8_4 x9_5 ji62 ((bt a0 (wrap64 (x8_4 - 2))) == (bt a1 (ji58)))) else (none)) else (none)) else (none)) else (impl_Far.j6 kj48 a0 a1 x5_5 x8_4 x9_5 ji62 false)) else (none)) else (none)) = some r := by first | (rw [hji68] at H; exact H) | (simp only [hji68] at H ⊢; exact H)
                                                                              have hji68w : (IntKind.i64.wrap (x9_5 - 2)) = ji68 := (i64_w _).trans hji68
                                                                              by_cases c69 : 0 ≤ (ji68)
                                                                              · rw [if_pos c69] at H
                                                                                have c69b0 : decide (0 ≤ (ji68)) = true := decide_eq_true c69
                                                                                clear c69
                                                                                by_cases c70 : (ji68) < (a1.size : Int)
                                                                                · rw [if_pos c70] at H
                                                                                  have c70b0 : decide ((ji68) < (a1.size : Int)) = true := decide_eq_true c70
                                                                                  clear c70
                                                                                  by_cases c72 : (bt a0 (ji51)) = (bt a1 (ji68))
                                                                                  · rw [if_pos c72] at H
                                                                                    have c72b0 : ((bt a0 (ji51)) == (bt a1 (ji68))) = true := beq_iff_eq.mpr c72
                                                                                    have c72b1 : ((bt a0 (ji51)) != (bt a1 (ji68))) = false := bne_eq_false_iff_eq.mpr c72
                                                                                    clear c72
                                                                                    obtain ⟨ji73, hji73⟩ : ∃ j_ : Int, (wrap64 (x8_4 - 2)) = j_ := ⟨_, rfl⟩
                                                                                    replace H : (if 0 ≤ (ji73) then (if (ji73) < (a0.size : Int) then (if (ji58) < (a1.size : Int) then (impl_Far.j6 kj48 a0 a1 x5_5 x8_4 x9_5 ji62 ((bt a0 (ji73)) == (bt a1 (ji58)))) else (none)) else (none)) else (none)) = some r := by first | (rw [hji73] at H; exact H) | (simp only [hji73] at H ⊢; exact H)
                                                                                    have hji73w : (IntKind.i64.wrap (x8_4 - 2)) = ji73 := (i64_w _).trans hji73
                                                                                    by_cases c74 : 0 ≤ (ji73)
                                                                                    · rw [if_pos c74] at H
                                                                                      have c74b0 : decide (0 ≤ (ji73)) = true := decide_eq_true c74
                                                                                      clear c74
                                                                                      by_cases c75 : (ji73) < (a0.size : Int)
                                                                                      · rw [if_pos c75] at H
                                                                                        have c75b0 : decide ((ji73) < (a0.size : Int)) = true := decide_eq_true c75
                                                                                        clear c75
                                                                                        by_cases c77 : (ji58) < (a1.size : Int)
                                                                                        · rw [if_pos c77] at H
                                                                                          have c77b0 : decide ((ji58) < (a1.size : Int)) = true := decide_eq_true c77
                                                                                          clear c77
                                                                                          have H' := Aside0.mk H
                                                                                          clear H
                                                                                          have p67 : 0 ≤ ((ji51) : Int) := of_decide_eq_true (by first | (with_reducible assumption) | assumption)
                                                                                          have q67 : (ji51) < (a0.size : Int) := of_decide_eq_true (by first | (with_reducible assumption) | assumption)
                                                                                          have hx67 := bt_at a0 (ji51)
                                                                                          replace p67 := eq_true p67
                                                                                          replace q67 := eq_true q67
                                                                                          have p71 : 0 ≤ ((ji68) : Int) := of_decide_eq_true (by first | (with_reducible assumption) | assumption)
                                                                                          have q71 : (ji68) < (a1.size : Int) := of_decide_eq_true (by first | (with_reducible assumption) | assumption)
                                                                                          have hx71 := bt_at a1 (ji68)
                                                                                          replace p71 := eq_true p71
                                                                                          replace q71 := eq_true q71
                                                                                          have p76 : 0 ≤ ((ji73) : Int) := of_decide_eq_true (by first | (with_reducible assumption) | assumption)
                                                                                          have q76 : (ji73) < (a0.size : Int) := of_decide_eq_true (by first | (with_reducible assumption) | assumption)
                                                                                          have hx76 := bt_at a0 (ji73)
                                                                                          replace p76 := eq_true p76
                                                                                          replace q76 := eq_true q76
                                                                                          have p78 : 0 ≤ ((ji58) : Int) := of_decide_eq_true (by first | (with_reducible assumption) | assumption)
                                                                                          have q78 : (ji58) < (a1.size : Int) := of_decide_eq_true (by first | (with_reducible assumption) | assumption)
                                                                                          have hx78 := bt_at a1 (ji58)
                                                                                          replace p78 := eq_true p78
                                                                                          replace q78 := eq_true q78
                                                                                          go_wp2
                                                                                          repeat (go_quiet (fail); try go_wp2)
                                                                                          go_meet
                                                                                          case rel => exact ⟨_, (((bt a0 (ji73)) == (bt a1 (ji58)))), (by first | rfl | (simp; done) | (simp only [← hji58, ← hji73] <;> (first | rfl | simp)) | (simp [*]; done)), H', ⟨by have := HJ2.out; have := HK2.out; have := HK3.out; have := HK4.out; have := HK5.out; have := HJ48.out; first | omega | exact Nat.le_refl _⟩, ⟨by (try simp only [hl5_2]); (try simp only [hl5_3]); (try simp only [hl5_4]); (try simp only [hl5_5]); (with_reducible repeat (first | apply Kd.S_alloc | apply Kd.S_drewN | apply Kd.S_drew)); exact HO_5.out⟩, ⟨by repeat (first | (with_reducible exact HR240_0.out) | (with_reducible refine Kd.C_alloc ?_ _) | (with_reducible refine Kd.C_drewN ?_ _) | (with_reducible refine Kd.C_drew ?_) | exact HR240_0.out)⟩, ⟨by repeat (first | (with_reducible exact HR242_0.out) | (with_reducible refine Kd.C_alloc ?_ _) | (with_reducible refine Kd.C_drewN ?_ _) | (with_reducible refine Kd.C_drew ?_) | exact HR242_0.out)⟩, ⟨by repeat (first | (with_reducible exact HR244_0.out) | (with_reducible refine Kd.C_alloc ?_ _) | (with_reducible refine Kd.C_drewN ?_ _) | (with_reducible refine Kd.C_drew ?_) | exact HR244_0.out)⟩, ⟨by repeat (first | (with_reducible first | exact HB.out | apply below_alloc | apply pw_below_drewN | apply below_drew1) | exact HB.out)⟩⟩
                                                                                        · rw [if_neg c77] at H
                                                                                          exact absurd H (by simp)
                                                                                      · rw [if_neg c75] at H
                                                                                        exact absurd H (by simp)
                                                                                    · rw [if_neg c74] at H
                                                                                      exact absurd H (by simp)
                                                                                  · rw [if_neg c72] at H
                                                                                    have c72b0 : ((bt a0 (ji51)) == (bt a1 (ji68))) = false := beq_eq_false_iff_ne.mpr c72
                                                                                    have c72b1 : ((bt a0 (ji51)) != (bt a1 (ji68))) = true := bne_iff_ne.mpr c72
                                                                                    have H' := Aside0.mk H
                                                                                    clear H
                                                                                    have p67 : 0 ≤ ((ji51) : Int) := of_decide_eq_true (by first | (with_reducible assumption) | assumption)
                                                                                    have q67 : (ji51) < (a0.size : Int) := of_decide_eq_true (by first | (with_reducible assumption) | assumption)
                                                                                    have hx67 := bt_at a0 (ji51)
                                                                                    replace p67 := eq_true p67
                                                                                    replace q67 := eq_true q67
                                                                                    have p71 : 0 ≤ ((ji68) : Int) := of_decide_eq_true (by first | (with_reducible assumption) | assumption)
                                                                                    have q71 : (ji68) < (a1.size : Int) := of_decide_eq_true (by first | (with_reducible assumption) | assumption)
                                                                                    have hx71 := bt_at a1 (ji68)
                                                                                    replace p71 := eq_true p71
                                                                                    replace q71 := eq_true q71
                                                                                    go_wp2
                                                                                    repeat (go_quiet (fail); try go_wp2)
                                                                                    go_meet
                                                                                    case rel => exact ⟨_, (false), (by first | rfl | (simp; done) | (simp [*]; done)), H', ⟨by have := HJ2.out; have := HK2.out; have := HK3.out; have := HK4.out; have := HK5.out; have := HJ48.out; first | omega | exact Nat.le_refl _⟩, ⟨by (try simp only [hl5_2]); (try simp only [hl5_3]); (try simp only [hl5_4]); (try simp only [hl5_5]); (with_reducible repeat (first | apply Kd.S_alloc | apply Kd.S_drewN | apply Kd.S_drew)); exact HO_5.out⟩, ⟨by repeat (first | (with_reducible exact HR240_0.out) | (with_reducible refine Kd.C_alloc ?_ _) | (with_reducible refine Kd.C_drewN ?_ _) | (with_reducible refine Kd.C_drew ?_) | exact HR240_0.out)⟩, ⟨by repeat (first | (with_reducible exact HR242_0.out) | (with_reducible refine Kd.C_alloc ?_ _) | (with_reducible refine Kd.C_drewN ?_ _) | (with_reducible refine Kd.C_drew ?_) | exact HR242_0.out)⟩, ⟨by repeat (first | (with_reducible exact HR244_0.out) | (with_reducible refine Kd.C_alloc ?_ _) | (with_reducible refine Kd.C_drewN ?_ _) | (with_reducible refine Kd.C_drew ?_) | exact HR244_0.out)⟩, ⟨by repeat (first | (with_reducible first | exact HB.out | apply below_alloc | apply pw_below_drewN | apply below_drew1) | exact HB.out)⟩⟩
                                                                                · rw [if_neg c70] at H
                                                                                  exact absurd H (by simp)
                                                                              · rw [if_neg c69] at H
                                                                                exact absurd H (by simp)
                                                                            · rw [if_neg c66] at H
                                                                              exact absurd H (by simp)
                                                                          · rw [if_neg c65] at H
                                                                            have c65b0 : decide (1 < x9_5) = false := decide_eq_false c65
                                                                            clear c65
                                                                            have H' := Aside0.mk H
                                                                            clear H
                                                                            go_wp2
                                                                            repeat (go_quiet (fail); try go_wp2)
                                                                            go_meet
                                                                            case rel => exact ⟨_, (false), (by first | rfl | (simp; done) | (simp [*]; done)), H', ⟨by have := HJ2.out; have := HK2.out; have := HK3.out; have := HK4.out; have := HK5.out; have := HJ48.out; first | omega | exact Nat.le_refl _⟩, ⟨by (try simp only [hl5_2]); (try simp only [hl5_3]); (try simp only [hl5_4]); (try simp only [hl5_5]); (with_reducible repeat (first | apply Kd.S_alloc | apply Kd.S_drewN | apply Kd.S_drew)); exact HO_5.out⟩, ⟨by repeat (first | (with_reducible exact HR240_0.out) | (with_reducible refine Kd.C_alloc ?_ _) | (with_reducible refine Kd.C_drewN ?_ _) | (with_reducible refine Kd.C_drew ?_) | exact HR240_0.out)⟩, ⟨by repeat (first | (with_reducible exact HR242_0.out) | (with_reducible refine Kd.C_alloc ?_ _) | (with_reducible refine Kd.C_drewN ?_ _) | (with_reducible refine Kd.C_drew ?_) | exact HR242_0.out)⟩, ⟨by repeat (first | (with_reducible exact HR244_0.out) | (with_reducible refine Kd.C_alloc ?_ _) | (with_reducible refine Kd.C_drewN ?_ _) | (with_reducible refine Kd.C_drew ?_) | exact HR244_0.out)⟩, ⟨by repeat (first | (with_reducible first | exact HB.out | apply below_alloc | apply pw_below_drewN | apply below_drew1) | exact HB.out)⟩⟩
                                                                        · rw [if_neg c64] at H
                                                                          have c64b0 : decide (1 < x8_4) = false := decide_eq_false c64
                                                                          clear c64
                                                                          (first | rw [c64b0] | (simp only [i64_w, i32_w]; rw [c64b0]) | skip)
                                                                          have H' := Aside0.mk H
                                                                          clear H
                                                                          go_wp2
                                                                          repeat (go_quiet (fail); try go_wp2)
                                                                          go_meet
                                                                          case rel => exact ⟨_, (false), (by first | rfl | (simp; done) | (simp [*]; done)), H', ⟨by have := HJ2.out; have := HK2.out; have := HK3.out; have := HK4.out; have := HK5.out; have := HJ48.out; first | omega | exact Nat.le_refl _⟩, ⟨by (try simp only [hl5_2]); (try simp only [hl5_3]); (try simp only [hl5_4]); (try simp only [hl5_5]); (with_reducible repeat (first | apply Kd.S_alloc | apply Kd.S_drewN | apply Kd.S_drew)); exact HO_5.out⟩, ⟨by repeat (first | (with_reducible exact HR240_0.out) | (with_reducible refine Kd.C_alloc ?_ _) | (with_reducible refine Kd.C_drewN ?_ _) | (with_reducible refine Kd.C_drew ?_) | exact HR240_0.out)⟩, ⟨by repeat (first | (with_reducible exact HR242_0.out) | (with_reducible refine Kd.C_alloc ?_ _) | (with_reducible refine Kd.C_drewN ?_ _) | (with_reducible refine Kd.C_drew ?_) | exact HR242_0.out)⟩, ⟨by repeat (first | (with_reducible exact HR244_0.out) | (with_reducible refine Kd.C_alloc ?_ _) | (with_reducible refine Kd.C_drewN ?_ _) | (with_reducible refine Kd.C_drew ?_) | exact HR244_0.out)⟩, ⟨by repeat (first | (with_reducible first | exact HB.out | apply below_alloc | apply pw_below_drewN | apply below_drew1) | exact HB.out)⟩⟩
                                                                      case rest =>
                                                                        clear HC63
                                                                        try clear c1
                                                                        try clear c2
                                                                        try clear p2
                                                                        try clear q2
                                                                        try clear hx2
                                                                        try clear qi2
                                                                        try clear hf2
                                                                        try clear c3
                                                                        try clear p3
                                                                        try clear q3
                                                                        try clear hx3
                                                                        try clear hf3
                                                                        try clear c4
                                                                        try clear p4
                                                                        try clear q4
                                                                        try clear hx4
                                                                        try clear c5
                                                                        try clear c6
                                                                        try clear p6
                                                                        try clear q6
                                                                        try clear hx6
                                                                        try clear c7
                                                                        try clear p7
                                                                        try clear q7
                                                                        try clear hx7
                                                                        try clear c9
                                                                        try clear c9b0
                                                                        try clear c9b1
                                                                        try clear c10
                                                                        try clear c10b0
                                                                        try clear c10b1
                                                                        try clear c14
                                                                        try clear c14b0
                                                                        try clear c16
                                                                        try clear c16b0
                                                                        try clear c16b1
                                                                        try clear c17
                                                                        try clear c17b0
                                                                        try clear c17b1
                                                                        try clear c18
                                                                        try clear c18b0
                                                                        try clear c19
                                                                        try clear c19b0
                                                                        try clear c20
                                                                        try clear p20
                                                                        try clear q20
                                                                        try clear hx20
                                                                        try clear hf20
                                                                        try clear c21
                                                                        try clear c21b0
                                                                        try clear c21b1
                                                                        try clear c22
                                                                        try clear p22
                                                                        try clear q22
                                                                        try clear hx22
                                                                        try clear qi22
                                                                        try clear hf22
                                                                        try clear c23
                                                                        try clear p23
                                                                        try clear q23
                                                                        try clear hx23
                                                                        try clear qi23
                                                                        try clear c24
                                                                        try clear p24
                                                                        try clear q24
                                                                        try clear hx24
                                                                        try clear c25
                                                                        try clear hx25
                                                                        try clear hf25
                                                                        try clear c27
                                                                        try clear q27
                                                                        try clear c29
                                                                        try clear c29b0
                                                                        try clear c29b1
                                                                        try clear c30
                                                                        try clear c30b0
                                                                        try clear c31
                                                                        try clear c31b0
                                                                        try clear c31b1
                                                                        try clear c32
                                                                        try clear c32b0
                                                                        try clear c33
                                                                        try clear c33b0
                                                                        try clear p34
                                                                        try clear q34
                                                                        try clear hx34
                                                                        try clear hf34
                                                                        try clear c35
                                                                        try clear q35
                                                                        try clear c37
                                                                        try clear c37b0
                                                                        try clear c38
                                                                        try clear c38b0
                                                                        try clear c40
                                                                        try clear c40b0
                                                                        try clear c41
                                                                        try clear c41b0
                                                                        try clear c43
                                                                        try clear c43b0
                                                                        try clear c44
                                                                        try clear c44b0
                                                                        try clear c45
                                                                        try clear c45b0
                                                                        try clear p46
                                                                        try clear q46
                                                                        try clear hx46
                                                                        try clear c47
                                                                        try clear c47b0
                                                                        try clear p48
                                                                        try clear q48
                                                                        try clear hx48
                                                                        try clear c50
                                                                        try clear c50b0
                                                                        try clear c50b1
                                                                        try clear c52
                                                                        try clear c52b0
                                                                        try clear c53
                                                                        try clear c53b0
                                                                        try clear c54
                                                                        try clear c54b0
                                                                        try clear c55
                                                                        try clear c55b0
                                                                        try clear c56
                                                                        try clear c56b0
                                                                        try clear c57
                                                                        try clear c57b0
                                                                        try clear c59
                                                                        try clear c59b0
                                                                        try clear c60
                                                                        try clear c60b0
                                                                        try clear c64
                                                                        try clear c64b0
                                                                        try clear p64
                                                                        try clear c65
                                                                        try clear c65b0
                                                                        try clear c66
                                                                        try clear c66b0
                                                                        try clear p67
                                                                        try clear q67
                                                                        try clear hx67
                                                                        try clear c69
                                                                        try clear c69b0
                                                                        try clear c70
                                                                        try clear c70b0
                                                                        try clear p71
                                                                        try clear q71
                                                                        try clear hx71
                                                                        try clear c72
                                                                        try clear c72b0
                                                                        try clear c72b1
                                                                        try clear c74
                                                                        try clear c74b0
                                                                        try clear c75
                                                                        try clear c75b0
                                                                        try clear p76
                                                                        try clear q76
                                                                        try clear hx76
                                                                        try clear c77
                                                                        try clear c77b0
                                                                        try clear p78
                                                                        try clear q78
                                                                        try clear hx78
                                                                        try clear hx20_0
                                                                        try clear hx229_0
                                                                        try clear hx22_0
                                                                        try clear hx233_0
                                                                        try clear hx234_0
                                                                        try clear hx240_0
                                                                        try clear hx241_0
                                                                        try clear hx242_0
                                                                        try clear hx243_0
                                                                        try clear hx244_0
                                                                        try clear hx245_0
                                                                        try clear hx25_0
                                                                        try clear hx34_0
                                                                        try clear p2
                                                                        try clear p20
                                                                        try clear p22
                                                                        try clear p229
                                                                        try clear p23
                                                                        try clear p233
                                                                        try clear p234
                                                                        try clear p24
                                                                        try clear p240
                                                                        try clear p241
                                                                        try clear p242
                                                                        try clear p243
                                                                        try clear p244
                                                                        try clear p245
                                                                        try clear p3
                                                                        try clear p34
                                                                        try clear p4
                                                                        try clear p46
                                                                        try clear p48
                                                                        try clear p6
                                                                        try clear p67
                                                                        try clear p71
                                                                        try clear p76
                                                                        try clear p78
                                                                        try clear q2
                                                                        try clear q20
                                                                        try clear q22
                                                                        try clear q229
                                                                        try clear q23
                                                                        try clear q233
                                                                        try clear q234
                                                                        try clear q24
                                                                        try clear q240
                                                                        try clear q241
                                                                        try clear q242
                                                                        try clear q243
                                                                        try clear q244
                                                                        try clear q245
                                                                        try clear q27
                                                                        try clear q3
                                                                        try clear q34
                                                                        try clear q35
                                                                        try clear q4
                                                                        try clear q46
                                                                        try clear q48
                                                                        try clear q67
                                                                        try clear q71
                                                                        try clear q76
                                                                        try clear q78
                                                                        obtain ⟨kq, x135_62, rfl, HA, HJ62, HO_5, HR240_0, HR242_0, HR244_0, HB⟩ := hcut
                                                                        cases kq with
                                                                        | zero => exact absurd HA.out (by simp [impl_Far.j6])
                                                                        | succ kj62 =>
                                                                          have H := HA.out
                                                                          clear HA
                                                                          simp only [impl_Far.j6] at H
                                                                          by_cases c79 : x135_62 = true
                                                                          · subst c79
                                                                            have H1 : (if 0 ≤ (wrap64 (x8_4 - 2)) then (if (wrap64 (x8_4 - 2)) < (x5_5.length : Int) then (if 0 ≤ (wrap64 (x9_5 - 2)) then (if (wrap64 (x9_5 - 2)) < ((rd_L3 x5_5 (wrap64 (x8_4 - 2))).length : Int) then (if 0 ≤ x8_4 then (if x8_4 < (x5_5.length : Int) then (if 0 ≤ x9_5 then (if x9_5 < ((rd_L3 x5_5 x8_4).length : Int) then (impl_Far.l3 kj62 a0 a1 (x5_5.set (x8_4 : Int).toNat ((rd_L3 x5_5 x8_4).set (x9_5 : Int).toNat (mn ji62 (wrap64 ((rd (rd_L3 x5_5 (wrap64 (x8_4 - 2))) (wrap64 (x9_5 - 2))) + 1))))) x8_4 (wrap64 (x9_5 + 1))) else (none)) else (none)) else (none)) else (none)) else (none)) else (none)) else (none)) else (none)) = some r := by rw [if_pos rfl] at H; exact H
                                                                            clear H
                                                                            have H := H1
                                                                            clear H1
                                                                            obtain ⟨ji80, hji80⟩ : ∃ j_ : Int, (wrap64 (x8_4 - 2)) = j_ := ⟨_, rfl⟩
                                                                            replace H : (if 0 ≤ (ji80) then (if (ji80) < (x5_5.length : Int) then (if 0 ≤ (wrap64 (x9_5 - 2)) then (if (wrap64 (x9_5 - 2)) < ((rd_L3 x5_5 (ji80)).length : Int) then (if 0 ≤ x8_4 then (if x8_4 < (x5_5.length : Int) then (if 0 ≤ x9_5 then (if x9_5 < ((rd_L3 x5_5 x8_4).length : Int) then (impl_Far.l3 kj62 a0 a1 (x5_5.set (x8_4 : Int).toNat ((rd_L3 x5_5 x8_4).set (x9_5 : Int).toNat (mn ji62 (wrap64 ((rd (rd_L3 x5_5 (ji80)) (wrap64 (x9_5 - 2))) + 1))))) x8_4 (wrap64 (x9_5 + 1))) else (none)) else (none)) else (none)) else (none)) else (none)) else (none)) else (none)) else (none)) = some r := by first | (rw [hji80] at H; exact H) | (simp only [hji80] at H ⊢; exact H)
                                                                            have hji80w : (IntKind.i64.wrap (x8_4 - 2)) = ji80 := (i64_w _).trans hji80
                                                                            (try clear hji73w)
                                                                            by_cases c81 : 0 ≤ (ji80)
                                                                            · rw [if_pos c81] at H
                                                                              have c81b0 : decide (0 ≤ (ji80)) = true := decide_eq_true c81
                                                                              clear c81
                                                                              by_cases c82 : (ji80) < (x5_5.length : Int)
                                                                              · rw [if_pos c82] at H
                                                                                have c82b0 : decide ((ji80) < (x5_5.length : Int)) = true := decide_eq_true c82
                                                                                try have c82b8 := c82b0
                                                                                try simp only [hl5_2] at c82b8
                                                                                try simp only [hl5_3] at c82b8
                                                                                try simp only [hl5_4] at c82b8
                                                                                try simp only [hl5_5] at c82b8
                                                                                clear c82
                                                                                obtain ⟨ji83, hji83⟩ : ∃ j_ : Int, (wrap64 (x9_5 - 2)) = j_ := ⟨_, rfl⟩
                                                                                replace H : (if 0 ≤ (ji83) then (if (ji83) < ((rd_L3 x5_5 (ji80)).length : Int) then (if 0 ≤ x8_4 then (if x8_4 < (x5_5.length : Int) then (if 0 ≤ x9_5 then (if x9_5 < ((rd_L3 x5_5 x8_4).length : Int) then (impl_Far.l3 kj62 a0 a1 (x5_5.set (x8_4 : Int).toNat ((rd_L3 x5_5 x8_4).set (x9_5 : Int).toNat (mn ji62 (wrap64 ((rd (rd_L3 x5_5 (ji80)) (ji83)) + 1))))) x8_4 (wrap64 (x9_5 + 1))) else (none)) else (none)) else (none)) else (none)) else (none)) else (none)) = some r := by first | (rw [hji83] at H; exact H) | (simp only [hji83] at H ⊢; exact H)
                                                                                have hji83w : (IntKind.i64.wrap (x9_5 - 2)) = ji83 := (i64_w _).trans hji83
                                                                                (try clear hji68w)
                                                                                by_cases c84 : 0 ≤ (ji83)
                                                                                · rw [if_pos c84] at H
                                                                                  have c84b0 : decide (0 ≤ (ji83)) = true := decide_eq_true c84
                                                                                  clear c84
                                                                                  by_cases c85 : (ji83) < ((rd_L3 x5_5 (ji80)).length : Int)
                                                                                  · rw [if_pos c85] at H
                                                                                    have c85b0 : decide ((ji83) < ((rd_L3 x5_5 (ji80)).length : Int)) = true := decide_eq_true c85
                                                                                    try have c85b8 := c85b0
                                                                                    try simp only [hl5_2] at c85b8
                                                                                    try simp only [hl5_3] at c85b8
                                                                                    try simp only [hl5_4] at c85b8
                                                                                    try simp only [hl5_5] at c85b8
                                                                                    clear c85
                                                                                    obtain ⟨ji86, hji86⟩ : ∃ j_ : Int, (mn ji62 (wrap64 ((rd (rd_L3 x5_5 (ji80)) (ji83)) + 1))) = j_ := ⟨_, rfl⟩
                                                                                    replace H : (if 0 ≤ x8_4 then (if x8_4 < (x5_5.length : Int) then (if 0 ≤ x9_5 then (if x9_5 < ((rd_L3 x5_5 x8_4).length : Int) then (impl_Far.l3 kj62 a0 a1 (x5_5.set (x8_4 : Int).toNat ((rd_L3 x5_5 x8_4).set (x9_5 : Int).toNat (ji86))) x8_4 (wrap64 (x9_5 + 1))) else (none)) else (none)) else (none)) else (none)) = some r := by first | (rw [hji86] at H; exact H) | (simp only [hji86] at H ⊢; exact H)
                                                                                    have hji86_ : (if (wrap64 ((rd (rd_L3 x5_5 (ji80)) (ji83)) + 1)) < ji62 then (wrap64 ((rd (rd_L3 x5_5 (ji80)) (ji83)) + 1)) else ji62) = ji86 := hji86
                                                                                    by_cases c87 : 0 ≤ x8_4
                                                                                    · rw [if_pos c87] at H
                                                                                      have c87b0 : decide (0 ≤ x8_4) = true := decide_eq_true c87
                                                                                      clear c87
                                                                                      by_cases c88 : x8_4 < (x5_5.length : Int)
                                                                                      · rw [if_pos c88] at H
                                                                                        have c88b0 : decide (x8_4 < (x5_5.length : Int)) = true := decide_eq_true c88
                                                                                        try have c88b8 := c88b0
                                                                                        try simp only [hl5_2] at c88b8
                                                                                        try simp only [hl5_3] at c88b8
                                                                                        try simp only [hl5_4] at c88b8
                                                                                        try simp only [hl5_5] at c88b8
                                                                                        clear c88
                                                                                        by_cases c89 : 0 ≤ x9_5
                                                                                        · rw [if_pos c89] at H
                                                                                          have c89b0 : decide (0 ≤ x9_5) = true := decide_eq_true c89
                                                                                          clear c89
                                                                                          by_cases c90 : x9_5 < ((rd_L3 x5_5 x8_4).length : Int)
                                                                                          · rw [if_pos c90] at H
                                                                                            have c90b0 : decide (x9_5 < ((rd_L3 x5_5 x8_4).length : Int)) = true := decide_eq_true c90
                                                                                            try have c90b8 := c90b0
                                                                                            try simp only [hl5_2] at c90b8
                                                                                            try simp only [hl5_3] at c90b8
                                                                                            try simp only [hl5_4] at c90b8
                                                                                            try simp only [hl5_5] at c90b8
                                                                                            clear c90
                                                                                            obtain ⟨y249, hy249⟩ : ∃ y_ : List Int, y_ = ((rd_L3 x5_5 x8_4).set (x9_5 : Int).toNat (ji86)) := ⟨_, rfl⟩
                                                                                            replace H : (impl_Far.l3 kj62 a0 a1 (x5_5.set (x8_4 : Int).toNat y249) x8_4 (wrap64 (x9_5 + 1))) = some r := by first | (rw [hy249]; with_reducible exact H) | (have H2_ := (Option.bind_some _ _).symm.trans H; rw [hy249]; with_reducible exact H2_) | (have H2_ := (Option.bind_some _ _).symm.trans H; with_reducible exact H2_) | with_reducible exact H | (rw [hy249]; exact H) | exact H
                                                                                            have Ny249 := Aside0.mk hy249
                                                                                            clear hy249
                                                                                            obtain ⟨y251, hy251⟩ : ∃ y_ : List (List Int), y_ = (x5_5.set (x8_4 : Int).toNat y249) := ⟨_, rfl⟩
                                                                                            replace H : (impl_Far.l3 kj62 a0 a1 y251 x8_4 (wrap64 (x9_5 + 1))) = some r := by first | (rw [hy251]; with_reducible exact H) | (have H2_ := (Option.bind_some _ _).symm.trans H; rw [hy251]; with_reducible exact H2_) | (have H2_ := (Option.bind_some _ _).symm.trans H; with_reducible exact H2_) | with_reducible exact H | (rw [hy251]; exact H) | exact H
                                                                                            have Ny251 := Aside0.mk hy251
                                                                                            clear hy251
                                                                                            have H' := Aside0.mk H
                                                                                            clear H
                                                                                            have p246 : 0 ≤ ((ji80) : Int) := of_decide_eq_true (by first | (with_reducible assumption) | assumption)
                                                                                            have q246 : (ji80) < (x5_5.length : Int) := of_decide_eq_true (by first | (with_reducible assumption) | assumption)
                                                                                            obtain ⟨ad246, A246_0, c246_0, e246, hx246_0, hl246_0, hi246_0⟩ := at_L3 (Kd.S_reads' HO_5.out).2.2 (ji80) p246 q246
                                                                                            obtain rfl : ad233 = ad246 := (by injection e246)
                                                                                            obtain ⟨ce246, hce246, hMe246, hcc246⟩ := Kd.S_get HO_5.out [] (ji80) p246 (by first | exact q246 | exact of_decide_eq_true (by first | (with_reducible assumption) | assumption) | (have e_ := (Kd.S_reads' HO_5.out).1; omega))
                                                                                            obtain ⟨ve246_0, rfl, ge246_0⟩ := hMe246
                                                                                            have hv246_0 := hcc246 0 _ rfl
                                                                                            rw [Nat.add_zero, show ((Kd.slice 3 (Kd.int .i64))).sz = 1 from rfl, Nat.mul_one] at hv246_0
                                                                                            replace hv246_0 := Option.some.inj (hv246_0.symm.trans hx246_0)
                                                                                            rw [hv246_0] at ge246_0
                                                                                            have HL246_0 := Aside0.mk (show Kd.R (Kd.int .i64) 3 _ _ _ _ (rd_L3 x5_5 (ji80)) from ge246_0)
                                                                                            clear hv246_0 ge246_0
                                                                                            have HX246_0 := Aside0.mk hx246_0
                                                                                            clear hcc246 hce246
                                                                                            have HR246_0 := Aside0.mk hi246_0
                                                                                            have HC246_0 := Aside0.mk hl246_0
                                                                                            clear hi246_0 hl246_0
                                                                                            replace p246 := eq_true p246
                                                                                            replace q246 := eq_true q246
                                                                                            have p247 : 0 ≤ ((ji83) : Int) := of_decide_eq_true (by first | (with_reducible assumption) | assumption)
                                                                                            have q247 : (ji83) < ((rd_L3 x5_5 (ji80)).length : Int) := of_decide_eq_true (by first | (with_reducible assumption) | assumption)
                                                                                            obtain ⟨ad247, e247, hx247_0⟩ := Kd.at_int (by repeat (first | (with_reducible exact HR246_0.out) | (with_reducible refine Kd.C_alloc ?_ _) | (with_reducible refine Kd.C_drewN ?_ _) | (with_reducible refine Kd.C_drew ?_) | exact HR246_0.out)) (ji83) p247 q247
                                                                                            cases e247
                                                                                            replace p247 := eq_true p247
                                                                                            replace q247 := eq_true q247
                                                                                            have p248 : 0 ≤ (x8_4 : Int) := of_decide_eq_true (by first | (with_reducible assumption) | assumption)
                                                                                            have q248 : x8_4 < (x5_5.length : Int) := of_decide_eq_true (by first | (with_reducible assumption) | assumption)
                                                                                            obtain ⟨ad248, A248_0, c248_0, e248, hx248_0, hl248_0, hi248_0⟩ := at_L3 (Kd.S_reads' HO_5.out).2.2 x8_4 p248 q248
                                                                                            obtain rfl : ad233 = ad248 := (by injection e248)
                                                                                            obtain ⟨ce248, hce248, hMe248, hcc248⟩ := Kd.S_get HO_5.out [] x8_4 p248 (by first | exact q248 | exact of_decide_eq_true (by first | (with_reducible assumption) | assumption) | (have e_ := (Kd.S_reads' HO_5.out).1; omega))
                                                                                            obtain ⟨ve248_0, rfl, ge248_0⟩ := hMe248
                                                                                            have hv248_0 := hcc248 0 _ rfl
                                                                                            rw [Nat.add_zero, show ((Kd.slice 3 (Kd.int .i64))).sz = 1 from rfl, Nat.mul_one] at hv248_0
                                                                                            replace hv248_0 := Option.some.inj (hv248_0.symm.trans hx248_0)
                                                                                            rw [hv248_0] at ge248_0
                                                                                            have HL248_0 := Aside0.mk (show Kd.R (Kd.int .i64) 3 _ _ _ _ (rd_L3 x5_5 x8_4) from ge248_0)
                                                                                            clear hv248_0 ge248_0
                                                                                            have HX248_0 := Aside0.mk hx248_0
                                                                                            clear hcc248 hce248
                                                                                            have HR248_0 := Aside0.mk hi248_0
                                                                                            have HC248_0 := Aside0.mk hl248_0
                                                                                            clear hi248_0 hl248_0
                                                                                            replace p248 := eq_true p248
                                                                                            replace q248 := eq_true q248
                                                                                            have p91 : 0 ≤ (x9_5 : Int) := of_decide_eq_true (by first | (with_reducible assumption) | assumption)
                                                                                            have q91 : (x9_5 : Int) < (((rd_L3 x5_5 x8_4).length : Int) : Int) := of_decide_eq_true (by first | (with_reducible assumption) | assumption)
                                                                                            obtain ⟨go91, co91, eo91, gb91, gl91, cl91, HG91⟩ := Kd.R_form HL248_0.out (by omega)
                                                                                            (first | cases eo91 | (injection eo91 with ea_ en_ ec_; (first | subst ea_ | (injection ea_ with ea_; subst ea_)); subst ec_; clear en_))
                                                                                            have GB91 := Aside0.mk gb91
                                                                                            have GG91 := Aside0.mk HG91
                                                                                            clear gb91 gl91 HG91
                                                                                            obtain ⟨hx91_0, hf91_0⟩ := Kd.R_celln 0 HL248_0.out (x9_5 : Int) p91 q91
                                                                                            replace p91 := eq_true p91
                                                                                            replace q91 := eq_true q91
                                                                                            have hq92 : (x8_4 : Int) < (x5_5.length : Int) := (by have h_ : (x8_4 : Int) < ((x5_5.length : Int) : Int) := of_decide_eq_true (by first | (with_reducible assumption) | assumption); first | exact h_ | (have e_ := (Kd.S_reads' HO_5.out).1; omega) | simpa only [List.length_set, List.length_set] using h_)
                                                                                            obtain ⟨oki92, ce92, hcl92, hM92, hcc92, hok92, hbk92⟩ := Kd.S_borrow HO_5.out [] (x8_4 : Int) (of_decide_eq_true (by first | (with_reducible assumption) | assumption)) hq92
                                                                                            obtain ⟨ve92_0, rfl, ge92_0⟩ := hM92
                                                                                            have hv92 := hcc92 0 _ rfl
                                                                                            rw [Nat.add_zero, show ((Kd.slice 3 (Kd.int .i64))).sz = 1 from rfl, Nat.mul_one] at hv92
                                                                                            replace hv92 := Option.some.inj (hv92.symm.trans HX248_0.out)
                                                                                            subst hv92
                                                                                            clear hcc92 hcl92
                                                                                            replace ge92_0 := (show Kd.R (Kd.int .i64) 3 _ _ _ _ (rd_L3 x5_5 x8_4) from ge92_0)
                                                                                            have HP92 := Kd.R_putg ge92_0 (x9_5 : Int) ji86
                                                                                            go_wp2_with (first | ((with_reducible refine gate_store (t := 3) (p := 154) rfl ?_); (try (rw [drewN_self wc]; generalize hq_ : World.drewN wc _ = wc; have n0_ := Aside0.mk (Kd.S_at hq_ HO_5.out); have n1_ := Aside0.mk (Kd.R_at hq_ HL258.out); have n2_ := Aside0.mk (below_at hq_ HB.out); clear hq_ HO_5 HL258 HB; have HO_5 := n0_; have HL258 := n1_; have HB := n2_; clear n0_ n1_ n2_; (try (have hq92 : (x8_4 : Int) < (x5_5.length : Int) := (by have h_ : (x8_4 : Int) < ((x5_5.length : Int) : Int) := of_decide_eq_true (by first | (with_reducible assumption) | assumption); first | exact h_ | (have e_ := (Kd.S_reads' HO_5.out).1; omega) | simpa only [List.length_set, List.length_set] using h_))); (try (obtain ⟨oki92, ce92, hcl92, hM92, hcc92, hok92, hbk92⟩ := Kd.S_borrow HO_5.out [] (x8_4 : Int) (of_decide_eq_true (by first | (with_reducible assumption) | assumption)) hq92)); (try (obtain ⟨ve92_0, rfl, ge92_0⟩ := hM92)); (try (have hv92 := hcc92 0 _ rfl)); (try (rw [Nat.add_zero, show ((Kd.slice 3 (Kd.int .i64))).sz = 1 from rfl, Nat.mul_one] at hv92)); (try (replace hv92 := Option.some.inj (hv92.symm.trans HX248_0.out))); (try (subst hv92)); (try (clear hcc92 hcl92)); (try (replace ge92_0 := (show Kd.R (Kd.int .i64) 3 _ _ _ _ (rd_L3 x5_5 x8_4) from ge92_0))); (try (have HP92 := Kd.R_putg ge92_0 (x9_5 : Int) ji86)))); refine store_event (t := 3) (p := 154) (v := ?vo_w93) (w1 := (wc.setCell ⟨go91, (x9_5 : Int).toNat, none⟩ (.int .i64 ji86))) ?hg ?ho ?hn ?hr ?_; (case ho => rfl); (case hg => rfl); (case hn => rfl); (case hr => first | (go_simp; done) | (go_simp; rfl)); intro w93 hw; have hg : wc.grownBy w93 (some go91) := (by rw [hw]; exact HP92.2); have hz_ : Kd.R (Kd.int .i64) 3 w93 w.heap.size oki92 (.slice (some ⟨go91, 0, none⟩) (rd_L3 x5_5 x8_4).length c248_0) y249 := (by rw [hw, Ny249.out]; exact HP92.1); have hp_ : Kd.S (Kd.slice 3 (Kd.int .i64)) 102 w93 w.heap.size (fun _ => True) (.slice (some ad233) x5_5.length co13) y251 := (by rw [Ny251.out]; exact hbk92 hg (fun k_ e_ => by injection e_ with e_; subst e_; exact ge92_0.1 _ rfl) (Kd.M_row hz_)); have hm_ := Kd.R_mono hz_ hok92; clear HP92 hbk92; have n0_ := Aside0.mk (hp_); have n1_ := Aside0.mk ((by rw [hw]; exact below_set (HB.out) GB91.out : Below w.heap.size w w93)); have n2_ := Aside0.mk (hm_); have n3_ := Aside0.mk ((Kd.R_reads' hm_).2.1); clear HO_5; clear HB; clear HL246_0; clear HL248_0; have HO_5 := n0_; have HB := n1_; have HL258 := n2_; have HC250 := n3_; clear n0_ n1_ n2_ n3_; clear hg hw hp_ hz_ hm_ hok92))
                                                                                            repeat (go_quiet (first | ((with_reducible refine gate_store (t := 3) (p := 154) rfl ?_); (try (rw [drewN_self wc]; generalize hq_ : World.drewN wc _ = wc; have n0_ := Aside0.mk (Kd.S_at hq_ HO_5.out); have n1_ := Aside0.mk (Kd.R_at hq_ HL258.out); have n2_ := Aside0.mk (below_at hq_ HB.out); clear hq_ HO_5 HL258 HB; have HO_5 := n0_; have HL258 := n1_; have HB := n2_; clear n0_ n1_ n2_; (try (have hq92 : (x8_4 : Int) < (x5_5.length : Int) := (by have h_ : (x8_4 : Int) < ((x5_5.length : Int) : Int) := of_decide_eq_true (by first | (with_reducible assumption) | assumption); first | exact h_ | (have e_ := (Kd.S_reads' HO_5.out).1; omega) | simpa only [List.length_set, List.length_set] using h_))); (try (obtain ⟨oki92, ce92, hcl92, hM92, hcc92, hok92, hbk92⟩ := Kd.S_borrow HO_5.out [] (x8_4 : Int) (of_decide_eq_true (by first | (with_reducible assumption) | assumption)) hq92)); (try (obtain ⟨ve92_0, rfl, ge92_0⟩ := hM92)); (try (have hv92 := hcc92 0 _ rfl)); (try (rw [Nat.add_zero, show ((Kd.slice 3 (Kd.int .i64))).sz = 1 from rfl, Nat.mul_one] at hv92)); (try (replace hv92 := Option.some.inj (hv92.symm.trans HX248_0.out))); (try (subst hv92)); (try (clear hcc92 hcl92)); (try (replace ge92_0 := (show Kd.R (Kd.int .i64) 3 _ _ _ _ (rd_L3 x5_5 x8_4) from ge92_0))); (try (have HP92 := Kd.R_putg ge92_0 (x9_5 : Int) ji86)))); refine store_event (t := 3) (p := 154) (v := ?vo_w93) (w1 := (wc.setCell ⟨go91, (x9_5 : Int).toNat, none⟩ (.int .i64 ji86))) ?hg ?ho ?hn ?hr ?_; (case ho => rfl); (case hg => rfl); (case hn => rfl); (case hr => first | (go_simp; done) | (go_simp; rfl)); intro w93 hw; have hg : wc.grownBy w93 (some go91) := (by rw [hw]; exact HP92.2); have hz_ : Kd.R (Kd.int .i64) 3 w93 w.heap.size oki92 (.slice (some ⟨go91, 0, none⟩) (rd_L3 x5_5 x8_4).length c248_0) y249 := (by rw [hw, Ny249.out]; exact HP92.1); have hp_ : Kd.S (Kd.slice 3 (Kd.int .i64)) 102 w93 w.heap.size (fun _ => True) (.slice (some ad233) x5_5.length co13) y251 := (by rw [Ny251.out]; exact hbk92 hg (fun k_ e_ => by injection e_ with e_; subst e_; exact ge92_0.1 _ rfl) (Kd.M_row hz_)); have hm_ := Kd.R_mono hz_ hok92; clear HP92 hbk92; have n0_ := Aside0.mk (hp_); have n1_ := Aside0.mk ((by rw [hw]; exact below_set (HB.out) GB91.out : Below w.heap.size w w93)); have n2_ := Aside0.mk (hm_); have n3_ := Aside0.mk ((Kd.R_reads' hm_).2.1); clear HO_5; clear HB; clear HL246_0; clear HL248_0; have HO_5 := n0_; have HB := n1_; have HL258 := n2_; have HC250 := n3_; clear n0_ n1_ n2_ n3_; clear hg hw hp_ hz_ hm_ hok92)); try go_wp2_with (first | ((with_reducible refine gate_store (t := 3) (p := 154) rfl ?_); (try (rw [drewN_self wc]; generalize hq_ : World.drewN wc _ = wc; have n0_ := Aside0.mk (Kd.S_at hq_ HO_5.out); have n1_ := Aside0.mk (Kd.R_at hq_ HL258.out); have n2_ := Aside0.mk (below_at hq_ HB.out); clear hq_ HO_5 HL258 HB; have HO_5 := n0_; have HL258 := n1_; have HB := n2_; clear n0_ n1_ n2_; (try (have hq92 : (x8_4 : Int) < (x5_5.length : Int) := (by have h_ : (x8_4 : Int) < ((x5_5.length : Int) : Int) := of_decide_eq_true (by first | (with_reducible assumption) | assumption); first | exact h_ | (have e_ := (Kd.S_reads' HO_5.out).1; omega) | simpa only [List.length_set, List.length_set] using h_))); (try (obtain ⟨oki92, ce92, hcl92, hM92, hcc92, hok92, hbk92⟩ := Kd.S_borrow HO_5.out [] (x8_4 : Int) (of_decide_eq_true (by first | (with_reducible assumption) | assumption)) hq92)); (try (obtain ⟨ve92_0, rfl, ge92_0⟩ := hM92)); (try (have hv92 := hcc92 0 _ rfl)); (try (rw [Nat.add_zero, show ((Kd.slice 3 (Kd.int .i64))).sz = 1 from rfl, Nat.mul_one] at hv92)); (try (replace hv92 := Option.some.inj (hv92.symm.trans HX248_0.out))); (try (subst hv92)); (try (clear hcc92 hcl92)); (try (replace ge92_0 := (show Kd.R (Kd.int .i64) 3 _ _ _ _ (rd_L3 x5_5 x8_4) from ge92_0))); (try (have HP92 := Kd.R_putg ge92_0 (x9_5 : Int) ji86)))); refine store_event (t := 3) (p := 154) (v := ?vo_w93) (w1 := (wc.setCell ⟨go91, (x9_5 : Int).toNat, none⟩ (.int .i64 ji86))) ?hg ?ho ?hn ?hr ?_; (case ho => rfl); (case hg => rfl); (case hn => rfl); (case hr => first | (go_simp; done) | (go_simp; rfl)); intro w93 hw; have hg : wc.grownBy w93 (some go91) := (by rw [hw]; exact HP92.2); have hz_ : Kd.R (Kd.int .i64) 3 w93 w.heap.size oki92 (.slice (some ⟨go91, 0, none⟩) (rd_L3 x5_5 x8_4).length c248_0) y249 := (by rw [hw, Ny249.out]; exact HP92.1); have hp_ : Kd.S (Kd.slice 3 (Kd.int .i64)) 102 w93 w.heap.size (fun _ => True) (.slice (some ad233) x5_5.length co13) y251 := (by rw [Ny251.out]; exact hbk92 hg (fun k_ e_ => by injection e_ with e_; subst e_; exact ge92_0.1 _ rfl) (Kd.M_row hz_)); have hm_ := Kd.R_mono hz_ hok92; clear HP92 hbk92; have n0_ := Aside0.mk (hp_); have n1_ := Aside0.mk ((by rw [hw]; exact below_set (HB.out) GB91.out : Below w.heap.size w w93)); have n2_ := Aside0.mk (hm_); have n3_ := Aside0.mk ((Kd.R_reads' hm_).2.1); clear HO_5; clear HB; clear HL246_0; clear HL248_0; have HO_5 := n0_; have HB := n1_; have HL258 := n2_; have HC250 := n3_; clear n0_ n1_ n2_ n3_; clear hg hw hp_ hz_ hm_ hok92)))
                                                                                            (try simp only [← hl5_5])
                                                                                            go_roundg kj62
                                                                                            case measure => have := HJ2.out; have := HK2.out; have := HK3.out; have := HK4.out; have := HK5.out; have := HJ48.out; have := HJ62.out; omega
                                                                                            case rel => exact ⟨(y251), (wrap64 (x9_5 + 1)), (by first | rfl | (simp; done) | (simp [*]; done)), H', ⟨by have := HJ2.out; have := HK2.out; have := HK3.out; have := HK4.out; have := HK5.out; have := HJ48.out; have := HJ62.out; omega⟩, ⟨by (try simp only [hl5_2]); (try simp only [hl5_3]); (try simp only [hl5_4]); (try simp only [hl5_5]); (with_reducible repeat (first | apply Kd.S_alloc | apply Kd.S_drewN | apply Kd.S_drew)); exact HO_5.out⟩, ⟨by repeat (first | (with_reducible first | exact HB.out | apply below_alloc | apply pw_below_drewN | apply below_drew1) | exact HB.out)⟩⟩
                                                                                          · rw [if_neg c90] at H
                                                                                            exact absurd H (by simp)
                                                                                        · rw [if_neg c89] at H
                                                                                          exact absurd H (by simp)
                                                                                      · rw [if_neg c88] at H
                                                                                        exact absurd H (by simp)
                                                                                    · rw [if_neg c87] at H
                                                                                      exact absurd H (by simp)
                                                                                  · rw [if_neg c85] at H
                                                                                    exact absurd H (by simp)
                                                                                · rw [if_neg c84] at H
                                                                                  exact absurd H (by simp)
                                                                              · rw [if_neg c82] at H
                                                                                exact absurd H (by simp)
                                                                            · rw [if_neg c81] at H
                                                                              exact absurd H (by simp)
                                                                          · replace c79 := Bool.eq_false_iff.mpr c79
                                                                            subst c79
                                                                            have H1 : (if 0 ≤ x8_4 then (if x8_4 < (x5_5.length : Int) then (if 0 ≤ x9_5 then (if x9_5 < ((rd_L3 x5_5 x8_4).length : Int) then (impl_Far.l3 kj62 a0 a1 (x5_5.set (x8_4 : Int).toNat ((rd_L3 x5_5 x8_4).set (x9_5 : Int).toNat ji62)) x8_4 (wrap64 (x9_5 + 1))) else (none)) else (none)) else (none)) else (none)) = some r := by rw [if_neg (show ¬ (false = true) by decide)] at H; exact H
                                                                            clear H
                                                                            have H := H1
                                                                            clear H1
                                                                            by_cases c94 : 0 ≤ x8_4
                                                                            · rw [if_pos c94] at H
                                                                              have c94b0 : decide (0 ≤ x8_4) = true := decide_eq_true c94
                                                                              clear c94
                                                                              by_cases c95 : x8_4 < (x5_5.length : Int)
                                                                              · rw [if_pos c95] at H
                                                                                have c95b0 : decide (x8_4 < (x5_5.length : Int)) = true := decide_eq_true c95
                                                                                try have c95b8 := c95b0
                                                                                try simp only [hl5_2] at c95b8
                                                                                try simp only [hl5_3] at c95b8
                                                                                try simp only [hl5_4] at c95b8
                                                                                try simp only [hl5_5] at c95b8
                                                                                clear c95
                                                                                by_cases c96 : 0 ≤ x9_5
                                                                                · rw [if_pos c96] at H
                                                                                  have c96b0 : decide (0 ≤ x9_5) = true := decide_eq_true c96
                                                                                  clear c96
                                                                                  by_cases c97 : x9_5 < ((rd_L3 x5_5 x8_4).length : Int)
                                                                                  · rw [if_pos c97] at H
                                                                                    have c97b0 : decide (x9_5 < ((rd_L3 x5_5 x8_4).length : Int)) = true := decide_eq_true c97
                                                                                    try have c97b8 := c97b0
                                                                                    try simp only [hl5_2] at c97b8
                                                                                    try simp only [hl5_3] at c97b8
                                                                                    try simp only [hl5_4] at c97b8
                                                                                    try simp only [hl5_5] at c97b8
                                                                                    clear c97
                                                                                    obtain ⟨y253, hy253⟩ : ∃ y_ : List Int, y_ = ((rd_L3 x5_5 x8_4).set (x9_5 : Int).toNat ji62) := ⟨_, rfl⟩
                                                                                    replace H : (impl_Far.l3 kj62 a0 a1 (x5_5.set (x8_4 : Int).toNat y253) x8_4 (wrap64 (x9_5 + 1))) = some r := by first | (rw [hy253]; with_reducible exact H) | (have H2_ := (Option.bind_some _ _).symm.trans H; rw [hy253]; with_reducible exact H2_) | (have H2_ := (Option.bind_some _ _).symm.trans H; with_reducible exact H2_) | with_reducible exact H | (rw [hy253]; exact H) | exact H
                                                                                    have Ny253 := Aside0.mk hy253
                                                                                    clear hy253
                                                                                    obtain ⟨y255, hy255⟩ : ∃ y_ : List (List Int), y_ = (x5_5.set (x8_4 : Int).toNat y253) := ⟨_, rfl⟩
                                                                                    replace H : (impl_Far.l3 kj62 a0 a1 y255 x8_4 (wrap64 (x9_5 + 1))) = some r := by first | (rw [hy255]; with_reducible exact H) | (have H2_ := (Option.bind_some _ _).symm.trans H; rw [hy255]; with_reducible exact H2_) | (have H2_ := (Option.bind_some _ _).symm.trans H; with_reducible exact H2_) | with_reducible exact H | (rw [hy255]; exact H) | exact H
                                                                                    have Ny255 := Aside0.mk hy255
                                                                                    clear hy255
                                                                                    have H' := Aside0.mk H
                                                                                    clear H
                                                                                    have p252 : 0 ≤ (x8_4 : Int) := of_decide_eq_true (by first | (with_reducible assumption) | assumption)
                                                                                    have q252 : x8_4 < (x5_5.length : Int) := of_decide_eq_true (by first | (with_reducible assumption) | assumption)
                                                                                    obtain ⟨ad252, A252_0, c252_0, e252, hx252_0, hl252_0, hi252_0⟩ := at_L3 (Kd.S_reads' HO_5.out).2.2 x8_4 p252 q252
                                                                                    obtain rfl : ad233 = ad252 := (by injection e252)
                                                                                    obtain ⟨ce252, hce252, hMe252, hcc252⟩ := Kd.S_get HO_5.out [] x8_4 p252 (by first | exact q252 | exact of_decide_eq_true (by first | (with_reducible assumption) | assumption) | (have e_ := (Kd.S_reads' HO_5.out).1; omega))
                                                                                    obtain ⟨ve252_0, rfl, ge252_0⟩ := hMe252
                                                                                    have hv252_0 := hcc252 0 _ rfl
                                                                                    rw [Nat.add_zero, show ((Kd.slice 3 (Kd.int .i64))).sz = 1 from rfl, Nat.mul_one] at hv252_0
                                                                                    replace hv252_0 := Option.some.inj (hv252_0.symm.trans hx252_0)
                                                                                    rw [hv252_0] at ge252_0
                                                                                    have HL252_0 := Aside0.mk (show Kd.R (Kd.int .i64) 3 _ _ _ _ (rd_L3 x5_5 x8_4) from ge252_0)
                                                                                    clear hv252_0 ge252_0
                                                                                    have HX252_0 := Aside0.mk hx252_0
                                                                                    clear hcc252 hce252
                                                                                    have HR252_0 := Aside0.mk hi252_0
                                                                                    have HC252_0 := Aside0.mk hl252_0
                                                                                    clear hi252_0 hl252_0
                                                                                    replace p252 := eq_true p252
                                                                                    replace q252 := eq_true q252
                                                                                    have p98 : 0 ≤ (x9_5 : Int) := of_decide_eq_true (by first | (with_reducible assumption) | assumption)
                                                                                    have q98 : (x9_5 : Int) < (((rd_L3 x5_5 x8_4).length : Int) : Int) := of_decide_eq_true (by first | (with_reducible assumption) | assumption)
                                                                                    obtain ⟨go98, co98, eo98, gb98, gl98, cl98, HG98⟩ := Kd.R_form HL252_0.out (by omega)
                                                                                    (first | cases eo98 | (injection eo98 with ea_ en_ ec_; (first | subst ea_ | (injection ea_ with ea_; subst ea_)); subst ec_; clear en_))
                                                                                    have GB98 := Aside0.mk gb98
                                                                                    have GG98 := Aside0.mk HG98
                                                                                    clear gb98 gl98 HG98
                                                                                    obtain ⟨hx98_0, hf98_0⟩ := Kd.R_celln 0 HL252_0.out (x9_5 : Int) p98 q98
                                                                                    replace p98 := eq_true p98
                                                                                    replace q98 := eq_true q98
                                                                                    have hq99 : (x8_4 : Int) < (x5_5.length : Int) := (by have h_ : (x8_4 : Int) < ((x5_5.length : Int) : Int) := of_decide_eq_true (by first | (with_reducible assumption) | assumption); first | exact h_ | (have e_ := (Kd.S_reads' HO_5.out).1; omega) | simpa only [List.length_set, List.length_set] using h_)
                                                                                    obtain ⟨oki99, ce99, hcl99, hM99, hcc99, hok99, hbk99⟩ := Kd.S_borrow HO_5.out [] (x8_4 : Int) (of_decide_eq_true (by first | (with_reducible assumption) | assumption)) hq99
                                                                                    obtain ⟨ve99_0, rfl, ge99_0⟩ := hM99
                                                                                    have hv99 := hcc99 0 _ rfl
                                                                                    rw [Nat.add_zero, show ((Kd.slice 3 (Kd.int .i64))).sz = 1 from rfl, Nat.mul_one] at hv99
                                                                                    replace hv99 := Option.some.inj (hv99.symm.trans HX252_0.out)
                                                                                    subst hv99
                                                                                    clear hcc99 hcl99
                                                                                    replace ge99_0 := (show Kd.R (Kd.int .i64) 3 _ _ _ _ (rd_L3 x5_5 x8_4) from ge99_0)
                                                                                    have HP99 := Kd.R_putg ge99_0 (x9_5 : Int) ji62
                                                                                    go_wp2_with (first | ((with_reducible refine gate_store (t := 3) (p := 154) rfl ?_); (try (rw [drewN_self wc]; generalize hq_ : World.drewN wc _ = wc; have n0_ := Aside0.mk (Kd.S_at hq_ HO_5.out); have n1_ := Aside0.mk (Kd.R_at hq_ HL259.out); have n2_ := Aside0.mk (below_at hq_ HB.out); clear hq_ HO_5 HL259 HB; have HO_5 := n0_; have HL259 := n1_; have HB := n2_; clear n0_ n1_ n2_; (try (have hq99 : (x8_4 : Int) < (x5_5.length : Int) := (by have h_ : (x8_4 : Int) < ((x5_5.length : Int) : Int) := of_decide_eq_true (by first | (with_reducible assumption) | assumption); first | exact h_ | (have e_ := (Kd.S_reads' HO_5.out).1; omega) | simpa only [List.length_set, List.length_set] using h_))); (try (obtain ⟨oki99, ce99, hcl99, hM99, hcc99, hok99, hbk99⟩ := Kd.S_borrow HO_5.out [] (x8_4 : Int) (of_decide_eq_true (by first | (with_reducible assumption) | assumption)) hq99)); (try (obtain ⟨ve99_0, rfl, ge99_0⟩ := hM99)); (try (have hv99 := hcc99 0 _ rfl)); (try (rw [Nat.add_zero, show ((Kd.slice 3 (Kd.int .i64))).sz = 1 from rfl, Nat.mul_one] at hv99)); (try (replace hv99 := Option.some.inj (hv99.symm.trans HX252_0.out))); (try (subst hv99)); (try (clear hcc99 hcl99)); (try (replace ge99_0 := (show Kd.R (Kd.int .i64) 3 _ _ _ _ (rd_L3 x5_5 x8_4) from ge99_0))); (try (have HP99 := Kd.R_putg ge99_0 (x9_5 : Int) ji62)))); refine store_event (t := 3) (p := 154) (v := ?vo_w100) (w1 := (wc.setCell ⟨go98, (x9_5 : Int).toNat, none⟩ (.int .i64 ji62))) ?hg ?ho ?hn ?hr ?_; (case ho => rfl); (case hg => rfl); (case hn => rfl); (case hr => first | (go_simp; done) | (go_simp; rfl)); intro w100 hw; have hg : wc.grownBy w100 (some go98) := (by rw [hw]; exact HP99.2); have hz_ : Kd.R (Kd.int .i64) 3 w100 w.heap.size oki99 (.slice (some ⟨go98, 0, none⟩) (rd_L3 x5_5 x8_4).length c252_0) y253 := (by rw [hw, Ny253.out]; exact HP99.1); have hp_ : Kd.S (Kd.slice 3 (Kd.int .i64)) 102 w100 w.heap.size (fun _ => True) (.slice (some ad233) x5_5.length co13) y255 := (by rw [Ny255.out]; exact hbk99 hg (fun k_ e_ => by injection e_ with e_; subst e_; exact ge99_0.1 _ rfl) (Kd.M_row hz_)); have hm_ := Kd.R_mono hz_ hok99; clear HP99 hbk99; have n0_ := Aside0.mk (hp_); have n1_ := Aside0.mk ((by rw [hw]; exact below_set (HB.out) GB98.out : Below w.heap.size w w100)); have n2_ := Aside0.mk (hm_); have n3_ := Aside0.mk ((Kd.R_reads' hm_).2.1); clear HO_5; clear HB; clear HL252_0; have HO_5 := n0_; have HB := n1_; have HL259 := n2_; have HC254 := n3_; clear n0_ n1_ n2_ n3_; clear hg hw hp_ hz_ hm_ hok99))
                                                                                    repeat (go_quiet (first | ((with_reducible refine gate_store (t := 3) (p := 154) rfl ?_); (try (rw [drewN_self wc]; generalize hq_ : World.drewN wc _ = wc; have n0_ := Aside0.mk (Kd.S_at hq_ HO_5.out); have n1_ := Aside0.mk (Kd.R_at hq_ HL259.out); have n2_ := Aside0.mk (below_at hq_ HB.out); clear hq_ HO_5 HL259 HB; have HO_5 := n0_; have HL259 := n1_; have HB := n2_; clear n0_ n1_ n2_; (try (have hq99 : (x8_4 : Int) < (x5_5.length : Int) := (by have h_ : (x8_4 : Int) < ((x5_5.length : Int) : Int) := of_decide_eq_true (by first | (with_reducible assumption) | assumption); first | exact h_ | (have e_ := (Kd.S_reads' HO_5.out).1; omega) | simpa only [List.length_set, List.length_set] using h_))); (try (obtain ⟨oki99, ce99, hcl99, hM99, hcc99, hok99, hbk99⟩ := Kd.S_borrow HO_5.out [] (x8_4 : Int) (of_decide_eq_true (by first | (with_reducible assumption) | assumption)) hq99)); (try (obtain ⟨ve99_0, rfl, ge99_0⟩ := hM99)); (try (have hv99 := hcc99 0 _ rfl)); (try (rw [Nat.add_zero, show ((Kd.slice 3 (Kd.int .i64))).sz = 1 from rfl, Nat.mul_one] at hv99)); (try (replace hv99 := Option.some.inj (hv99.symm.trans HX252_0.out))); (try (subst hv99)); (try (clear hcc99 hcl99)); (try (replace ge99_0 := (show Kd.R (Kd.int .i64) 3 _ _ _ _ (rd_L3 x5_5 x8_4) from ge99_0))); (try (have HP99 := Kd.R_putg ge99_0 (x9_5 : Int) ji62)))); refine store_event (t := 3) (p := 154) (v := ?vo_w100) (w1 := (wc.setCell ⟨go98, (x9_5 : Int).toNat, none⟩ (.int .i64 ji62))) ?hg ?ho ?hn ?hr ?_; (case ho => rfl); (case hg => rfl); (case hn => rfl); (case hr => first | (go_simp; done) | (go_simp; rfl)); intro w100 hw; have hg : wc.grownBy w100 (some go98) := (by rw [hw]; exact HP99.2); have hz_ : Kd.R (Kd.int .i64) 3 w100 w.heap.size oki99 (.slice (some ⟨go98, 0, none⟩) (rd_L3 x5_5 x8_4).length c252_0) y253 := (by rw [hw, Ny253.out]; exact HP99.1); have hp_ : Kd.S (Kd.slice 3 (Kd.int .i64)) 102 w100 w.heap.size (fun _ => True) (.slice (some ad233) x5_5.length co13) y255 := (by rw [Ny255.out]; exact hbk99 hg (fun k_ e_ => by injection e_ with e_; subst e_; exact ge99_0.1 _ rfl) (Kd.M_row hz_)); have hm_ := Kd.R_mono hz_ hok99; clear HP99 hbk99; have n0_ := Aside0.mk (hp_); have n1_ := Aside0.mk ((by rw [hw]; exact below_set (HB.out) GB98.out : Below w.heap.size w w100)); have n2_ := Aside0.mk (hm_); have n3_ := Aside0.mk ((Kd.R_reads' hm_).2.1); clear HO_5; clear HB; clear HL252_0; have HO_5 := n0_; have HB := n1_; have HL259 := n2_; have HC254 := n3_; clear n0_ n1_ n2_ n3_; clear hg hw hp_ hz_ hm_ hok99)); try go_wp2_with (first | ((with_reducible refine gate_store (t := 3) (p := 154) rfl ?_); (try (rw [drewN_self wc]; generalize hq_ : World.drewN wc _ = wc; have n0_ := Aside0.mk (Kd.S_at hq_ HO_5.out); have n1_ := Aside0.mk (Kd.R_at hq_ HL259.out); have n2_ := Aside0.mk (below_at hq_ HB.out); clear hq_ HO_5 HL259 HB; have HO_5 := n0_; have HL259 := n1_; have HB := n2_; clear n0_ n1_ n2_; (try (have hq99 : (x8_4 : Int) < (x5_5.length : Int) := (by have h_ : (x8_4 : Int) < ((x5_5.length : Int) : Int) := of_decide_eq_true (by first | (with_reducible assumption) | assumption); first | exact h_ | (have e_ := (Kd.S_reads' HO_5.out).1; omega) | simpa only [List.length_set, List.length_set] using h_))); (try (obtain ⟨oki99, ce99, hcl99, hM99, hcc99, hok99, hbk99⟩ := Kd.S_borrow HO_5.out [] (x8_4 : Int) (of_decide_eq_true (by first | (with_reducible assumption) | assumption)) hq99)); (try (obtain ⟨ve99_0, rfl, ge99_0⟩ := hM99)); (try (have hv99 := hcc99 0 _ rfl)); (try (rw [Nat.add_zero, show ((Kd.slice 3 (Kd.int .i64))).sz = 1 from rfl, Nat.mul_one] at hv99)); (try (replace hv99 := Option.some.inj (hv99.symm.trans HX252_0.out))); (try (subst hv99)); (try (clear hcc99 hcl99)); (try (replace ge99_0 := (show Kd.R (Kd.int .i64) 3 _ _ _ _ (rd_L3 x5_5 x8_4) from ge99_0))); (try (have HP99 := Kd.R_putg ge99_0 (x9_5 : Int) ji62)))); refine store_event (t := 3) (p := 154) (v := ?vo_w100) (w1 := (wc.setCell ⟨go98, (x9_5 : Int).toNat, none⟩ (.int .i64 ji62))) ?hg ?ho ?hn ?hr ?_; (case ho => rfl); (case hg => rfl); (case hn => rfl); (case hr => first | (go_simp; done) | (go_simp; rfl)); intro w100 hw; have hg : wc.grownBy w100 (some go98) := (by rw [hw]; exact HP99.2); have hz_ : Kd.R (Kd.int .i64) 3 w100 w.heap.size oki99 (.slice (some ⟨go98, 0, none⟩) (rd_L3 x5_5 x8_4).length c252_0) y253 := (by rw [hw, Ny253.out]; exact HP99.1); have hp_ : Kd.S (Kd.slice 3 (Kd.int .i64)) 102 w100 w.heap.size (fun _ => True) (.slice (some ad233) x5_5.length co13) y255 := (by rw [Ny255.out]; exact hbk99 hg (fun k_ e_ => by injection e_ with e_; subst e_; exact ge99_0.1 _ rfl) (Kd.M_row hz_)); have hm_ := Kd.R_mono hz_ hok99; clear HP99 hbk99; have n0_ := Aside0.mk (hp_); have n1_ := Aside0.mk ((by rw [hw]; exact below_set (HB.out) GB98.out : Below w.heap.size w w100)); have n2_ := Aside0.mk (hm_); have n3_ := Aside0.mk ((Kd.R_reads' hm_).2.1); clear HO_5; clear HB; clear HL252_0; have HO_5 := n0_; have HB := n1_; have HL259 := n2_; have HC254 := n3_; clear n0_ n1_ n2_ n3_; clear hg hw hp_ hz_ hm_ hok99)))
                                                                                    (try simp only [← hl5_5])
                                                                                    go_roundg kj62
                                                                                    case measure => have := HJ2.out; have := HK2.out; have := HK3.out; have := HK4.out; have := HK5.out; have := HJ48.out; have := HJ62.out; omega
                                                                                    case rel => exact ⟨(y255), (wrap64 (x9_5 + 1)), (by first | rfl | (simp; done) | (simp [*]; done)), H', ⟨by have := HJ2.out; have := HK2.out; have := HK3.out; have := HK4.out; have := HK5.out; have := HJ48.out; have := HJ62.out; omega⟩, ⟨by (try simp only [hl5_2]); (try simp only [hl5_3]); (try simp only [hl5_4]); (try simp only [hl5_5]); (with_reducible repeat (first | apply Kd.S_alloc | apply Kd.S_drewN | apply Kd.S_drew)); exact HO_5.out⟩, ⟨by repeat (first | (with_reducible first | exact HB.out | apply below_alloc | apply pw_below_drewN | apply below_drew1) | exact HB.out)⟩⟩
                                                                                  · rw [if_neg c97] at H
                                                                                    exact absurd H (by simp)
                                                                                · rw [if_neg c96] at H
                                                                                  exact absurd H (by simp)
                                                                              · rw [if_neg c95] at H
                                                                                exact absurd H (by simp)
                                                                            · rw [if_neg c94] at H
                                                                              exact absurd H (by simp)
                                                                    · rw [if_neg c60] at H
                                                                      exact absurd H (by simp)
                                                                  · rw [if_neg c59] at H
                                                                    exact absurd H (by simp)
                                                                · rw [if_neg c57] at H
                                                                  exact absurd H (by simp)
                                                              · rw [if_neg c56] at H
                                                                exact absurd H (by simp)
                                                            · rw [if_neg c55] at H
                                                              exact absurd H (by simp)
                                                          · rw [if_neg c54] at H
                                                            exact absurd H (by simp)
                                                        · rw [if_neg c53] at H
                                                          exact absurd H (by simp)
                                                      · rw [if_neg c52] at H
                                                        exact absurd H (by simp)
                                                · rw [if_neg c47] at H
                                                  exact absurd H (by simp)
                                              · rw [if_neg c45] at H
                                                exact absurd H (by simp)
                                            · rw [if_neg c44] at H
                                              exact absurd H (by simp)
                                          · rw [if_neg c43] at H
                                            exact absurd H (by simp)
                                        · rw [if_neg c41] at H
                                          exact absurd H (by simp)
                                      · rw [if_neg c40] at H
                                        exact absurd H (by simp)
                                    · rw [if_neg c38] at H
                                      have c38b0 : decide (x9_5 ≤ (a1.size : Int)) = false := decide_eq_false c38
                                      clear c38
                                      have H' := Aside0.mk H
                                      clear H
                                      go_wp2
                                      repeat (go_quiet (fail); try go_wp2)
                                      (try simp only [← hl5_4, ← hl5_5])
                                      go_roundg k5
                                      case measure => have := HJ2.out; have := HK2.out; have := HK3.out; have := HK4.out; have := HK5.out; omega
                                      case rel => exact ⟨(x5_5), (wrap64 (x8_4 + 1)), (by first | rfl | (simp; done) | (simp [*]; done)), H', ⟨by have := HJ2.out; have := HK2.out; have := HK3.out; have := HK4.out; have := HK5.out; omega⟩, ⟨by (try simp only [hl5_2]); (try simp only [hl5_3]); (try simp only [hl5_4]); (try simp only [hl5_5]); (with_reducible repeat (first | apply Kd.S_alloc | apply Kd.S_drewN | apply Kd.S_drew)); exact HO_5.out⟩, ⟨by repeat (first | (with_reducible first | exact HB.out | apply below_alloc | apply pw_below_drewN | apply below_drew1) | exact HB.out)⟩⟩
                              · rw [if_neg c37] at H
                                have c37b0 : decide (x8_4 ≤ (a0.size : Int)) = false := decide_eq_false c37
                                clear c37
                                by_cases c101 : 0 ≤ (a0.size : Int)
                                · rw [if_pos c101] at H
                                  have c101b0 : decide (0 ≤ (a0.size : Int)) = true := decide_eq_true c101
                                  have c101b1 : decide (0 ≤ a0.size) = true := decide_eq_true (by omega)
                                  clear c101
                                  by_cases c102 : (a0.size : Int) < (x5_4.length : Int)
                                  · rw [if_pos c102] at H
                                    have c102b0 : decide ((a0.size : Int) < (x5_4.length : Int)) = true := decide_eq_true c102
                                    try have c102b8 := c102b0
                                    try simp only [hl5_2] at c102b8
                                    try simp only [hl5_3] at c102b8
                                    try simp only [hl5_4] at c102b8
                                    try simp only [hl5_5] at c102b8
                                    have c102b1 : decide (a0.size < x5_4.length) = true := decide_eq_true (Int.ofNat_lt.mp c102)
                                    clear c102
                                    by_cases c103 : 0 ≤ (a1.size : Int)
                                    · rw [if_pos c103] at H
                                      have c103b0 : decide (0 ≤ (a1.size : Int)) = true := decide_eq_true c103
                                      have c103b1 : decide (0 ≤ a1.size) = true := decide_eq_true (by omega)
                                      clear c103
                                      by_cases c104 : (a1.size : Int) < ((rd_L3 x5_4 (a0.size : Int)).length : Int)
                                      · rw [if_pos c104] at H
                                        have c104b0 : decide ((a1.size : Int) < ((rd_L3 x5_4 (a0.size : Int)).length : Int)) = true := decide_eq_true c104
                                        try have c104b8 := c104b0
                                        try simp only [hl5_2] at c104b8
                                        try simp only [hl5_3] at c104b8
                                        try simp only [hl5_4] at c104b8
                                        try simp only [hl5_5] at c104b8
                                        have c104b1 : decide (a1.size < (rd_L3 x5_4 (a0.size : Int)).length) = true := decide_eq_true (Int.ofNat_lt.mp c104)
                                        clear c104
                                        obtain rfl := Option.some.inj H
                                        have p238 : 0 ≤ ((a0.size : Int) : Int) := of_decide_eq_true (by first | (with_reducible assumption) | assumption)
                                        have q238 : (a0.size : Int) < (x5_4.length : Int) := of_decide_eq_true (by first | (with_reducible assumption) | assumption)
                                        obtain ⟨ad238, A238_0, c238_0, e238, hx238_0, hl238_0, hi238_0⟩ := at_L3 (Kd.S_reads' HO_5.out).2.2 (a0.size : Int) p238 q238
                                        obtain rfl : ad233 = ad238 := (by injection e238)
                                        obtain ⟨ce238, hce238, hMe238, hcc238⟩ := Kd.S_get HO_5.out [] (a0.size : Int) p238 (by first | exact q238 | exact of_decide_eq_true (by first | (with_reducible assumption) | assumption) | (have e_ := (Kd.S_reads' HO_5.out).1; omega))
                                        obtain ⟨ve238_0, rfl, ge238_0⟩ := hMe238
                                        have hv238_0 := hcc238 0 _ rfl
                                        rw [Nat.add_zero, show ((Kd.slice 3 (Kd.int .i64))).sz = 1 from rfl, Nat.mul_one] at hv238_0
                                        replace hv238_0 := Option.some.inj (hv238_0.symm.trans hx238_0)
                                        rw [hv238_0] at ge238_0
                                        have HL238_0 := Aside0.mk (show Kd.R (Kd.int .i64) 3 _ _ _ _ (rd_L3 x5_4 (a0.size : Int)) from ge238_0)
                                        clear hv238_0 ge238_0
                                        have HX238_0 := Aside0.mk hx238_0
                                        clear hcc238 hce238
                                        have HR238_0 := Aside0.mk hi238_0
                                        have HC238_0 := Aside0.mk hl238_0
                                        clear hi238_0 hl238_0
                                        replace p238 := eq_true p238
                                        replace q238 := eq_true q238
                                        (try have qn238 : (a0.size < x5_4.length) = True := eq_true (by have h_ := of_eq_true q238; omega))
                                        (try simp only [Int.toNat_natCast] at hx238_0)
                                        have p239 : 0 ≤ ((a1.size : Int) : Int) := of_decide_eq_true (by first | (with_reducible assumption) | assumption)
                                        have q239 : (a1.size : Int) < ((rd_L3 x5_4 (a0.size : Int)).length : Int) := of_decide_eq_true (by first | (with_reducible assumption) | assumption)
                                        obtain ⟨ad239, e239, hx239_0⟩ := Kd.at_int (by repeat (first | (with_reducible exact HR238_0.out) | (with_reducible refine Kd.C_alloc ?_ _) | (with_reducible refine Kd.C_drewN ?_ _) | (with_reducible refine Kd.C_drew ?_) | exact HR238_0.out)) (a1.size : Int) p239 q239
                                        cases e239
                                        replace p239 := eq_true p239
                                        replace q239 := eq_true q239
                                        (try have qn239 : (a1.size < (rd_L3 x5_4 (a0.size : Int)).length) = True := eq_true (by have h_ := of_eq_true q239; omega))
                                        (try simp only [Int.toNat_natCast] at hx239_0)
                                        go_wp2
                                        repeat (go_quiet (fail); try go_wp2)
                                        go_ret
                                        exact ⟨by first | rfl | (simp [errW_none, errW_some] <;> rfl) | (simp only [← hji8]; first | rfl | (simp [errW_none, errW_some] <;> rfl)) | (simp [*, errW_none, errW_some] <;> rfl), by repeat (first | (with_reducible first | exact HB.out | apply below_alloc | apply pw_below_drewN | apply below_drew1) | exact HB.out)⟩
                                      · rw [if_neg c104] at H
                                        exact absurd H (by simp)
                                    · rw [if_neg c103] at H
                                      exact absurd H (by simp)
                                  · rw [if_neg c102] at H
                                    exact absurd H (by simp)
                                · rw [if_neg c101] at H
                                  exact absurd H (by simp)
                  · rw [if_neg c29] at H
                    exact absurd H (by simp)
          · rw [if_neg c10] at H
            exact absurd H (by simp)
        · rw [if_neg c9] at H
          exact absurd H (by simp)

end Go.Proofs.Ytedfcehhgbeibaa.QFnNearBoth
