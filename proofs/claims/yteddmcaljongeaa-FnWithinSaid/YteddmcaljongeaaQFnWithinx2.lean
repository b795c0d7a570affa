import Derived.Test.YteddmcaljongeaaQFnWithinx0
import Derived.Test.YteddmcaljongeaaQFnWithinx1
namespace Go.Proofs.Yteddmcaljongeaa.QFnWithin
open Go.RowKit Go.Proofs.YteddmcaljongeaaW.PrintWords Go.Proofs.YteddmcaljongeaaW.PrintLast Go.Proofs.YteddmcaljongeaaW.PrintMore
attribute [local go_sem] max2_int min2_int max_two min_two max_three min_three max_four min_four   -- for this text's walks alone
set_option linter.unusedVariables false
set_option linter.unusedSimpArgs false

/-! ### impl_Far: function 30 -/
mutual
def impl_Far.j0 : Nat → ByteArray → ByteArray → Bool → Option (Int)
  | 0, _, _, _ => none
  | k + 1, x0, x1, x18 => if x18 = true then (some (-1)) else (if 0 ≤ (wrap64 ((x0.size : Int) + 1)) then (if (wrap64 ((x0.size : Int) + 1) : Int).toNat ≤ 11728124029610 then ((some (List.replicate (wrap64 ((x0.size : Int) + 1) : Int).toNat [] : List (List Int))).bind fun y105 => (impl_Far.l0 k x0 x1 y105 (y105.length : Int) 0)) else (none)) else (none))
def impl_Far.l0 : Nat → ByteArray → ByteArray → List (List Int) → Int → Int → Option (Int)
  | 0, _, _, _, _, _ => none
  | k + 1, x0, x1, x5, x24, x25 => if x25 < x24 then (if 0 ≤ (wrap64 ((x1.size : Int) + 1)) then (if (wrap64 ((x1.size : Int) + 1) : Int).toNat ≤ 35184372088832 then (if 0 ≤ x25 then (if x25 < (x5.length : Int) then ((some (x5.set (x25 : Int).toNat (List.replicate (wrap64 ((x1.size : Int) + 1) : Int).toNat 0) : List (List Int))).bind fun y111 => (if 0 < ((rd_L1 y111 x25).length : Int) then (impl_Far.l0 k x0 x1 (y111.set (x25 : Int).toNat ((rd_L1 y111 x25).set (0 : Int).toNat x25)) x24 (wrap64 (x25 + 1))) else (none))) else (none)) else (none)) else (none)) else (none)) else (if 0 < (x5.length : Int) then (impl_Far.l1 k x0 x1 x5 ((rd_L1 x5 0).length : Int) 0) else (none))
def impl_Far.l1 : Nat → ByteArray → ByteArray → List (List Int) → Int → Int → Option (Int)
  | 0, _, _, _, _, _ => none
  | k + 1, x0, x1, x5, x45, x46 => if x46 < x45 then (if 0 < (x5.length : Int) then (if 0 ≤ x46 then (if x46 < ((rd_L1 x5 0).length : Int) then (impl_Far.l1 k x0 x1 (x5.set (0 : Int).toNat ((rd_L1 x5 0).set (x46 : Int).toNat x46)) x45 (wrap64 (x46 + 1))) else (none)) else (none)) else (none)) else (impl_Far.l2 k x0 x1 x5 1)
def impl_Far.l2 : Nat → ByteArray → ByteArray → List (List Int) → Int → Option (Int)
  | 0, _, _, _, _ => none
  | k + 1, x0, x1, x5, x8 => if x8 ≤ (x0.size : Int) then (impl_Far.l3 k x0 x1 x5 x8 1) else (if 0 ≤ (x0.size : Int) then (if (x0.size : Int) < (x5.length : Int) then (if 0 ≤ (x1.size : Int) then (if (x1.size : Int) < ((rd_L1 x5 (x0.size : Int)).length : Int) then (some (rd (rd_L1 x5 (x0.size : Int)) (x1.size : Int))) else (none)) else (none)) else (none)) else (none))
def impl_Far.l3 : Nat → ByteArray → ByteArray → List (List Int) → Int → Int → Option (Int)
  | 0, _, _, _, _, _ => none
  | k + 1, x0, x1, x5, x8, x9 => if x9 ≤ (x1.size : Int) then (if 0 ≤ (wrap64 (x8 - 1)) then (if (wrap64 (x8 - 1)) < (x5.length : Int) then (if 0 ≤ (wrap64 (x9 - 1)) then (if (wrap64 (x9 - 1)) < ((rd_L1 x5 (wrap64 (x8 - 1))).length : Int) then (if (wrap64 (x8 - 1)) < (x0.size : Int) then (if (wrap64 (x9 - 1)) < (x1.size : Int) then (if (bt x0 (wrap64 (x8 - 1))) = (bt x1 (wrap64 (x9 - 1))) then (impl_Far.j5 k x0 x1 x5 x8 x9 (rd (rd_L1 x5 (wrap64 (x8 - 1))) (wrap64 (x9 - 1)))) else (impl_Far.j5 k x0 x1 x5 x8 x9 (wrap64 ((rd (rd_L1 x5 (wrap64 (x8 - 1))) (wrap64 (x9 - 1))) + 1)))) else (none)) else (none)) else (none)) else (none)) else (none)) else (none)) else (impl_Far.l2 k x0 x1 x5 (wrap64 (x8 + 1)))
def impl_Far.j5 : Nat → ByteArray → ByteArray → List (List Int) → Int → Int → Int → Option (Int)
  | 0, _, _, _, _, _, _ => none
  | k + 1, x0, x1, x5, x8, x9, x10 => if 0 ≤ (wrap64 (x8 - 1)) then (if (wrap64 (x8 - 1)) < (x5.length : Int) then (if 0 ≤ x9 then (if x9 < ((rd_L1 x5 (wrap64 (x8 - 1))).length : Int) then (if 0 ≤ x8 then (if x8 < (x5.length : Int) then (if 0 ≤ (wrap64 (x9 - 1)) then (if (wrap64 (x9 - 1)) < ((rd_L1 x5 x8).length : Int) then (if x8 > 1 then (if x9 > 1 then (if (wrap64 (x8 - 1)) < (x0.size : Int) then (if 0 ≤ (wrap64 (x9 - 2)) then (if (wrap64 (x9 - 2)) < (x1.size : Int) then (if (bt x0 (wrap64 (x8 - 1))) = (bt x1 (wrap64 (x9 - 2))) then (if 0 ≤ (wrap64 (x8 - 2)) then (if (wrap64 (x8 - 2)) < (x0.size : Int) then (if (wrap64 (x9 - 1)) < (x1.size : Int) then (impl_Far.j6 k x0 x1 x5 x8 x9 (mn (mn x10 (wrap64 ((rd (rd_L1 x5 (wrap64 (x8 - 1))) x9) + 1))) (wrap64 ((rd (rd_L1 x5 x8) (wrap64 (x9 - 1))) + 1))) ((bt x0 (wrap64 (x8 - 2))) == (bt x1 (wrap64 (x9 - 1))))) else (none)) else (none)) else (none)) else (impl_Far.j6 k x0 x1 x5 x8 x9 (mn (mn x10 (wrap64 ((rd (rd_L1 x5 (wrap64 (x8 - 1))) x9) + 1))) (wrap64 ((rd (rd_L1 x5 x8) (wrap64 (x9 - 1))) + 1))) false)) else (none)) else (none)) else (none)) else (impl_Far.j6 k x0 x1 x5 x8 x9 (mn (mn x10 (wrap64 ((rd (rd_L1 x5 (wrap64 (x8 - 1))) x9) + 1))) (wrap64 ((rd (rd_L1 x5 x8) (wrap64 (x9 - 1))) + 1))) false)) else (impl_Far.j6 k x0 x1 x5 x8 x9 (mn (mn x10 (wrap64 ((rd (rd_L1 x5 (wrap64 (x8 - 1))) x9) + 1))) (wrap64 ((rd (rd_L1 x5 x8) (wrap64 (x9 - 1))) + 1))) false)) else (none)) else (none)) else (none)) else (none)) else (none)) else (none)) else (none)) else (none)
def impl_Far.j6 : Nat → ByteArray → ByteArray → List (List Int) → Int → Int → Int → Bool → Option (Int)
  | 0, _, _, _, _, _, _, _ => none
  | k + 1, x0, x1, x5, x8, x9, x10, x135 => if x135 = true then (if 0 ≤ (wrap64 (x8 - 2)) then (if (wrap64 (x8 - 2)) < (x5.length : Int) then (if 0 ≤ (wrap64 (x9 - 2)) then (if (wrap64 (x9 - 2)) < ((rd_L1 x5 (wrap64 (x8 - 2))).length : Int) then (if 0 ≤ x8 then (if x8 < (x5.length : Int) then (if 0 ≤ x9 then (if x9 < ((rd_L1 x5 x8).length : Int) then (impl_Far.l3 k x0 x1 (x5.set (x8 : Int).toNat ((rd_L1 x5 x8).set (x9 : Int).toNat (mn x10 (wrap64 ((rd (rd_L1 x5 (wrap64 (x8 - 2))) (wrap64 (x9 - 2))) + 1))))) x8 (wrap64 (x9 + 1))) else (none)) else (none)) else (none)) else (none)) else (none)) else (none)) else (none)) else (none)) else (if 0 ≤ x8 then (if x8 < (x5.length : Int) then (if 0 ≤ x9 then (if x9 < ((rd_L1 x5 x8).length : Int) then (impl_Far.l3 k x0 x1 (x5.set (x8 : Int).toNat ((rd_L1 x5 x8).set (x9 : Int).toNat x10)) x8 (wrap64 (x9 + 1))) else (none)) else (none)) else (none)) else (none))
end
def impl_Far.f (k : Nat) (a0 : ByteArray) (a1 : ByteArray) : Option (Int) := (impl_WordOk.f k a0).bind fun t103 => (if t103 = true then ((impl_WordOk.f k a1).bind fun t104 => (impl_Far.j0 k a0 a1 (!t104))) else (impl_Far.j0 k a0 a1 true))
theorem impl_Far.mono_l : ∀ k, (∀ y0 y1 y2, LeO (impl_Far.j0 k y0 y1 y2) (impl_Far.j0 (k + 1) y0 y1 y2)) ∧ (∀ y0 y1 y2 y3 y4, LeO (impl_Far.l0 k y0 y1 y2 y3 y4) (impl_Far.l0 (k + 1) y0 y1 y2 y3 y4)) ∧ (∀ y0 y1 y2 y3 y4, LeO (impl_Far.l1 k y0 y1 y2 y3 y4) (impl_Far.l1 (k + 1) y0 y1 y2 y3 y4)) ∧ (∀ y0 y1 y2 y3, LeO (impl_Far.l2 k y0 y1 y2 y3) (impl_Far.l2 (k + 1) y0 y1 y2 y3)) ∧ (∀ y0 y1 y2 y3 y4, LeO (impl_Far.l3 k y0 y1 y2 y3 y4) (impl_Far.l3 (k + 1) y0 y1 y2 y3 y4)) ∧ (∀ y0 y1 y2 y3 y4 y5, LeO (impl_Far.j5 k y0 y1 y2 y3 y4 y5) (impl_Far.j5 (k + 1) y0 y1 y2 y3 y4 y5)) ∧ (∀ y0 y1 y2 y3 y4 y5 y6, LeO (impl_Far.j6 k y0 y1 y2 y3 y4 y5 y6) (impl_Far.j6 (k + 1) y0 y1 y2 y3 y4 y5 y6))
  | 0 => ⟨fun _ _ _ r h => by simp [impl_Far.j0] at h, fun _ _ _ _ _ r h => by simp [impl_Far.l0] at h, fun _ _ _ _ _ r h => by simp [impl_Far.l1] at h, fun _ _ _ _ r h => by simp [impl_Far.l2] at h, fun _ _ _ _ _ r h => by simp [impl_Far.l3] at h, fun _ _ _ _ _ _ r h => by simp [impl_Far.j5] at h, fun _ _ _ _ _ _ _ r h => by simp [impl_Far.j6] at h⟩
  | k + 1 => by
    obtain ⟨ih0, ih1, ih2, ih3, ih4, ih5, ih6⟩ := impl_Far.mono_l k
    refine ⟨?_, ?_, ?_, ?_, ?_, ?_, ?_⟩
    · intro y0 y1 y2
      unfold impl_Far.j0
      repeat' first
      | (with_reducible exact ih0 _ _ _)
      | (with_reducible exact ih1 _ _ _ _ _)
      | (with_reducible exact ih2 _ _ _ _ _)
      | (with_reducible exact ih3 _ _ _ _)
      | (with_reducible exact ih4 _ _ _ _ _)
      | (with_reducible exact ih5 _ _ _ _ _ _)
      | (with_reducible exact ih6 _ _ _ _ _ _ _)
      | (with_reducible exact impl_WordOk.mono _ _)
      | (with_reducible exact LeO.refl _)
      | (with_reducible exact LeO.none _)
      | (with_reducible refine LeO.ite ?_ ?_)
      | (with_reducible refine LeO.bind ?_ (fun _ => ?_))
      | exact ih0 _ _ _
      | exact ih1 _ _ _ _ _
      | exact ih2 _ _ _ _ _
      | exact ih3 _ _ _ _
      | exact ih4 _ _ _ _ _
      | exact ih5 _ _ _ _ _ _
      | exact ih6 _ _ _ _ _ _ _
      | exact impl_WordOk.mono _ _
      | exact LeO.none _
      | refine LeO.ite ?_ ?_
      | refine LeO.bind ?_ (fun _ => ?_)
    · intro y0 y1 y2 y3 y4
      unfold impl_Far.l0
      repeat' first
      | (with_reducible exact ih0 _ _ _)
      | (with_reducible exact ih1 _ _ _ _ _)
      | (with_reducible exact ih2 _ _ _ _ _)
      | (with_reducible exact ih3 _ _ _ _)
      | (with_reducible exact ih4 _ _ _ _ _)
      | (with_reducible exact ih5 _ _ _ _ _ _)
      | (with_reducible exact ih6 _ _ _ _ _ _ _)
      | (with_reducible exact impl_WordOk.mono _ _)
      | (with_reducible exact LeO.refl _)
      | (with_reducible exact LeO.none _)
      | (with_reducible refine LeO.ite ?_ ?_)
      | (with_reducible refine LeO.bind ?_ (fun _ => ?_))
      | exact ih0 _ _ _
      | exact ih1 _ _ _ _ _
      | exact ih2 _ _ _ _ _
      | exact ih3 _ _ _ _
      | exact ih4 _ _ _ _ _
      | exact ih5 _ _ _ _ _ _
      | exact ih6 _ _ _ _ _ _ _
      | exact impl_WordOk.mono _ _
      | exact LeO.none _
      | refine LeO.ite ?_ ?_
      | refine LeO.bind ?_ (fun _ => ?_)
    · intro y0 y1 y2 y3 y4
      unfold impl_Far.l1
      repeat' first
      | (with_reducible exact ih0 _ _ _)
      | (with_reducible exact ih1 _ _ _ _ _)
      | (with_reducible exact ih2 _ _ _ _ _)
      | (with_reducible exact ih3 _ _ _ _)
      | (with_reducible exact ih4 _ _ _ _ _)
      | (with_reducible exact ih5 _ _ _ _ _ _)
      | (with_reducible exact ih6 _ _ _ _ _ _ _)
      | (with_reducible exact impl_WordOk.mono _ _)
      | (with_reducible exact LeO.refl _)
      | (with_reducible exact LeO.none _)
      | (with_reducible refine LeO.ite ?_ ?_)
      | (with_reducible refine LeO.bind ?_ (fun _ => ?_))
      | exact ih0 _ _ _
      | exact ih1 _ _ _ _ _
      | exact ih2 _ _ _ _ _
      | exact ih3 _ _ _ _
      | exact ih4 _ _ _ _ _
      | exact ih5 _ _ _ _ _ _
      | exact ih6 _ _ _ _ _ _ _
      | exact impl_WordOk.mono _ _
      | exact LeO.none _
      | refine LeO.ite ?_ ?_
      | refine LeO.bind ?_ (fun _ => ?_)
    · intro y0 y1 y2 y3
      unfold impl_Far.l2
      repeat' first
      | (with_reducible exact ih0 _ _ _)
      | (with_reducible exact ih1 _ _ _ _ _)
      | (with_reducible exact ih2 _ _ _ _ _)
      | (with_reducible exact ih3 _ _ _ _)
      | (with_reducible exact ih4 _ _ _ _ _)
      | (with_reducible exact ih5 _ _ _ _ _ _)
      | (with_reducible exact ih6 _ _ _ _ _ _ _)
      | (with_reducible exact impl_WordOk.mono _ _)
      | (with_reducible exact LeO.refl _)
      | (with_reducible exact LeO.none _)
      | (with_reducible refine LeO.ite ?_ ?_)
      | (with_reducible refine LeO.bind ?_ (fun _ => ?_))
      | exact ih0 _ _ _
      | exact ih1 _ _ _ _ _
      | exact ih2 _ _ _ _ _
      | exact ih3 _ _ _ _
      | exact ih4 _ _ _ _ _
      | exact ih5 _ _ _ _ _ _
      | exact ih6 _ _ _ _ _ _ _
      | exact impl_WordOk.mono _ _
      | exact LeO.none _
      | refine LeO.ite ?_ ?_
      | refine LeO.bind ?_ (fun _ => ?_)
    · intro y0 y1 y2 y3 y4
      unfold impl_Far.l3
      repeat' first
      | (with_reducible exact ih0 _ _ _)
      | (with_reducible exact ih1 _ _ _ _ _)
      | (with_reducible exact ih2 _ _ _ _ _)
      | (with_reducible exact ih3 _ _ _ _)
      | (with_reducible exact ih4 _ _ _ _ _)
      | (with_reducible exact ih5 _ _ _ _ _ _)
      | (with_reducible exact ih6 _ _ _ _ _ _ _)
      | (with_reducible exact impl_WordOk.mono _ _)
      | (with_reducible exact LeO.refl _)
      | (with_reducible exact LeO.none _)
      | (with_reducible refine LeO.ite ?_ ?_)
      | (with_reducible refine LeO.bind ?_ (fun _ => ?_))
      | exact ih0 _ _ _
      | exact ih1 _ _ _ _ _
      | exact ih2 _ _ _ _ _
      | exact ih3 _ _ _ _
      | exact ih4 _ _ _ _ _
      | exact ih5 _ _ _ _ _ _
      | exact ih6 _ _ _ _ _ _ _
      | exact impl_WordOk.mono _ _
      | exact LeO.none _
      | refine LeO.ite ?_ ?_
      | refine LeO.bind ?_ (fun _ => ?_)
    · intro y0 y1 y2 y3 y4 y5
      unfold impl_Far.j5
      repeat' first
      | (with_reducible exact ih0 _ _ _)
      | (with_reducible exact ih1 _ _ _ _ _)
      | (with_reducible exact ih2 _ _ _ _ _)
      | (with_reducible exact ih3 _ _ _ _)
      | (with_reducible exact ih4 _ _ _ _ _)
      | (with_reducible exact ih5 _ _ _ _ _ _)
      | (with_reducible exact ih6 _ _ _ _ _ _ _)
      | (with_reducible exact impl_WordOk.mono _ _)
      | (with_reducible exact LeO.refl _)
      | (with_reducible exact LeO.none _)
      | (with_reducible refine LeO.ite ?_ ?_)
      | (with_reducible refine LeO.bind ?_ (fun _ => ?_))
      | exact ih0 _ _ _
      | exact ih1 _ _ _ _ _
      | exact ih2 _ _ _ _ _
      | exact ih3 _ _ _ _
      | exact ih4 _ _ _ _ _
      | exact ih5 _ _ _ _ _ _
      | exact ih6 _ _ _ _ _ _ _
      | exact impl_WordOk.mono _ _
      | exact LeO.none _
      | refine LeO.ite ?_ ?_
      | refine LeO.bind ?_ (fun _ => ?_)
    · intro y0 y1 y2 y3 y4 y5 y6
      unfold impl_Far.j6
      repeat' first
      | (with_reducible exact ih0 _ _ _)
      | (with_reducible exact ih1 _ _ _ _ _)
      | (with_reducible exact ih2 _ _ _ _ _)
      | (with_reducible exact ih3 _ _ _ _)
      | (with_reducible exact ih4 _ _ _ _ _)
      | (with_reducible exact ih5 _ _ _ _ _ _)
      | (with_reducible exact ih6 _ _ _ _ _ _ _)
      | (with_reducible exact impl_WordOk.mono _ _)
      | (with_reducible exact LeO.refl _)
      | (with_reducible exact LeO.none _)
      | (with_reducible refine LeO.ite ?_ ?_)
      | (with_reducible refine LeO.bind ?_ (fun _ => ?_))
      | exact ih0 _ _ _
      | exact ih1 _ _ _ _ _
      | exact ih2 _ _ _ _ _
      | exact ih3 _ _ _ _
      | exact ih4 _ _ _ _ _
      | exact ih5 _ _ _ _ _ _
      | exact ih6 _ _ _ _ _ _ _
      | exact impl_WordOk.mono _ _
      | exact LeO.none _
      | refine LeO.ite ?_ ?_
      | refine LeO.bind ?_ (fun _ => ?_)
theorem impl_Far.mono : ∀ a0 a1 k, LeO (impl_Far.f k a0 a1) (impl_Far.f (k + 1) a0 a1) := by
  intro a0 a1 k
  obtain ⟨ih0, ih1, ih2, ih3, ih4, ih5, ih6⟩ := impl_Far.mono_l k
  unfold impl_Far.f
  repeat' first
      | (with_reducible exact ih0 _ _ _)
      | (with_reducible exact ih1 _ _ _ _ _)
      | (with_reducible exact ih2 _ _ _ _ _)
      | (with_reducible exact ih3 _ _ _ _)
      | (with_reducible exact ih4 _ _ _ _ _)
      | (with_reducible exact ih5 _ _ _ _ _ _)
      | (with_reducible exact ih6 _ _ _ _ _ _ _)
      | (with_reducible exact impl_WordOk.mono _ _)
      | (with_reducible exact LeO.refl _)
      | (with_reducible exact LeO.none _)
      | (with_reducible refine LeO.ite ?_ ?_)
      | (with_reducible refine LeO.bind ?_ (fun _ => ?_))
      | exact ih0 _ _ _
      | exact ih1 _ _ _ _ _
      | exact ih2 _ _ _ _ _
      | exact ih3 _ _ _ _
      | exact ih4 _ _ _ _ _
      | exact ih5 _ _ _ _ _ _
      | exact ih6 _ _ _ _ _ _ _
      | exact impl_WordOk.mono _ _
      | exact LeO.none _
      | refine LeO.ite ?_ ?_
      | refine LeO.bind ?_ (fun _ => ?_)
set_option maxHeartbeats 8000000 in
set_option maxRecDepth 100000 in
theorem impl_Far.calls (k : Nat) (a0 : ByteArray) (a1 : ByteArray) (r : Int) (w : World) (h : impl_Far.f k a0 a1 = some r) :
    Calls Try.prog 30 #[.string a0, .string a1] w fun e w' => e = .returned (.int .i64 r) ∧ Below w.heap.size w w' := by
  have HB := Aside0.mk (Below.refl w.heap.size w)
  have H : ((impl_WordOk.f k a0).bind fun t103 => (if t103 = true then ((impl_WordOk.f k a1).bind fun t104 => (impl_Far.j0 k a0 a1 (!t104))) else (impl_Far.j0 k a0 a1 true))) = some r := h
  clear h
  have HC3 := Aside0.mk H
  clear H
  go_enter Try.func30, Try.ntmps30
  go_upto_region 1 with (fail)
  repeat (go_quiet (fail); go_upto_region 1 with (fail))
  go_cut [18] (fun v18 wc => ∃ (kq : Nat) (x18_2 : Bool), v18 = .bool x18_2 ∧ Aside0 (impl_Far.j0 kq a0 a1 x18_2 = some r) ∧ Aside0 (kq ≤ k) ∧ Aside0 (Below w.heap.size w wc))
  case first =>
    have H := HC3.out
    clear HC3
    replace H := Option.bind_eq_some_iff.mp H
    obtain ⟨t103, A40, H⟩ := H
    replace H : (if t103 = true then ((impl_WordOk.f k a1).bind fun t104 => (impl_Far.j0 k a0 a1 (!t104))) else (impl_Far.j0 k a0 a1 true)) = some r := H
    have A4 := Aside0.mk A40
    clear A40
    by_cases c5 : t103 = true
    · subst c5
      have H1 : ((impl_WordOk.f k a1).bind fun t104 => (impl_Far.j0 k a0 a1 (!t104))) = some r := by rw [if_pos rfl] at H; exact H
      clear H
      have H := H1
      clear H1
      replace H := Option.bind_eq_some_iff.mp H
      obtain ⟨t104, A60, H⟩ := H
      replace H : (impl_Far.j0 k a0 a1 (!t104)) = some r := H
      have A6 := Aside0.mk A60
      clear A60
      have H' := Aside0.mk H
      clear H
      go_wp2_with (first | (go_at_call 56; (with_reducible refine (impl_WordOk.calls k a0 true _ A4.out).mono ?_); rintro e w' ⟨rfl, ⟨nd, rfl⟩⟩; (try first | exact ⟨rfl, _, World.drewN_drewN _ _ _⟩ | exact ⟨rfl, _, Eq.trans (World.drewN_drewN _ _ _) (congrArg (World.drewN _) (Nat.add_assoc _ _ _))⟩)) | (go_at_call 56; (with_reducible refine (impl_WordOk.calls k a1 t104 _ A6.out).mono ?_); rintro e w' ⟨rfl, ⟨nd, rfl⟩⟩; (try first | exact ⟨rfl, _, World.drewN_drewN _ _ _⟩ | exact ⟨rfl, _, Eq.trans (World.drewN_drewN _ _ _) (congrArg (World.drewN _) (Nat.add_assoc _ _ _))⟩)))
      repeat (go_quiet (first | (go_at_call 56; (with_reducible refine (impl_WordOk.calls k a0 true _ A4.out).mono ?_); rintro e w' ⟨rfl, ⟨nd, rfl⟩⟩; (try first | exact ⟨rfl, _, World.drewN_drewN _ _ _⟩ | exact ⟨rfl, _, Eq.trans (World.drewN_drewN _ _ _) (congrArg (World.drewN _) (Nat.add_assoc _ _ _))⟩)) | (go_at_call 56; (with_reducible refine (impl_WordOk.calls k a1 t104 _ A6.out).mono ?_); rintro e w' ⟨rfl, ⟨nd, rfl⟩⟩; (try first | exact ⟨rfl, _, World.drewN_drewN _ _ _⟩ | exact ⟨rfl, _, Eq.trans (World.drewN_drewN _ _ _) (congrArg (World.drewN _) (Nat.add_assoc _ _ _))⟩))); try go_wp2_with (first | (go_at_call 56; (with_reducible refine (impl_WordOk.calls k a0 true _ A4.out).mono ?_); rintro e w' ⟨rfl, ⟨nd, rfl⟩⟩; (try first | exact ⟨rfl, _, World.drewN_drewN _ _ _⟩ | exact ⟨rfl, _, Eq.trans (World.drewN_drewN _ _ _) (congrArg (World.drewN _) (Nat.add_assoc _ _ _))⟩)) | (go_at_call 56; (with_reducible refine (impl_WordOk.calls k a1 t104 _ A6.out).mono ?_); rintro e w' ⟨rfl, ⟨nd, rfl⟩⟩; (try first | exact ⟨rfl, _, World.drewN_drewN _ _ _⟩ | exact ⟨rfl, _, Eq.trans (World.drewN_drewN _ _ _) (congrArg (World.drewN _) (Nat.add_assoc _ _ _))⟩))))
      go_meet
      case rel => exact ⟨_, (!t104), (by first | rfl | (simp; done) | (simp [*]; done)), H', ⟨by first | omega | exact Nat.le_refl _⟩, ⟨by repeat (first | (with_reducible first | exact HB.out | apply below_alloc | apply pw_below_drewN | apply below_drew1) | exact HB.out)⟩⟩
    · replace c5 := Bool.eq_false_iff.mpr c5
      subst c5
      have H1 : (impl_Far.j0 k a0 a1 true) = some r := by rw [if_neg (show ¬ (false = true) by decide)] at H; exact H
      clear H
      have H := H1
      clear H1
      have H' := Aside0.mk H
      clear H
      go_wp2_with (first | (go_at_call 56; (with_reducible refine (impl_WordOk.calls k a0 false _ A4.out).mono ?_); rintro e w' ⟨rfl, ⟨nd, rfl⟩⟩; (try first | exact ⟨rfl, _, World.drewN_drewN _ _ _⟩ | exact ⟨rfl, _, Eq.trans (World.drewN_drewN _ _ _) (congrArg (World.drewN _) (Nat.add_assoc _ _ _))⟩)))
      repeat (go_quiet (first | (go_at_call 56; (with_reducible refine (impl_WordOk.calls k a0 false _ A4.out).mono ?_); rintro e w' ⟨rfl, ⟨nd, rfl⟩⟩; (try first | exact ⟨rfl, _, World.drewN_drewN _ _ _⟩ | exact ⟨rfl, _, Eq.trans (World.drewN_drewN _ _ _) (congrArg (World.drewN _) (Nat.add_assoc _ _ _))⟩))); try go_wp2_with (first | (go_at_call 56; (with_reducible refine (impl_WordOk.calls k a0 false _ A4.out).mono ?_); rintro e w' ⟨rfl, ⟨nd, rfl⟩⟩; (try first | exact ⟨rfl, _, World.drewN_drewN _ _ _⟩ | exact ⟨rfl, _, Eq.trans (World.drewN_drewN _ _ _) (congrArg (World.drewN _) (Nat.add_assoc _ _ _))⟩))))
      go_meet
      case rel => exact ⟨_, (true), (by first | rfl | (simp; done) | (simp [*]; done)), H', ⟨by first | omega | exact Nat.le_refl _⟩, ⟨by repeat (first | (with_reducible first | exact HB.out | apply below_alloc | apply pw_below_drewN | apply below_drew1) | exact HB.out)⟩⟩
  case rest =>
    clear HC3
    try clear p2
    try clear c3
    try clear c5
    obtain ⟨kq, x18_2, rfl, HA, HJ2, HB⟩ := hcut
    cases kq with
    | zero => exact absurd HA.out (by simp [impl_Far.j0])
    | succ kj2 =>
      have H := HA.out
      clear HA
      simp only [impl_Far.j0] at H
      by_cases c7 : x18_2 = true
      · subst c7
        have H1 : (some (-1)) = some r := by rw [if_pos rfl] at H; exact H
        clear H
        have H := H1
        clear H1
        obtain rfl := Option.some.inj H
        go_wp2
        repeat (go_quiet (fail); try go_wp2)
        go_ret
        exact ⟨by first | rfl | (simp [errW_none, errW_some] <;> rfl) | (simp [*, errW_none, errW_some] <;> rfl), by repeat (first | (with_reducible first | exact HB.out | apply below_alloc | apply pw_below_drewN | apply below_drew1) | exact HB.out)⟩
      · replace c7 := Bool.eq_false_iff.mpr c7
        subst c7
        have H1 : (if 0 ≤ (wrap64 ((a0.size : Int) + 1)) then (if (wrap64 ((a0.size : Int) + 1) : Int).toNat ≤ 11728124029610 then ((some (List.replicate (wrap64 ((a0.size : Int) + 1) : Int).toNat [] : List (List Int))).bind fun y105 => (impl_Far.l0 kj2 a0 a1 y105 (y105.length : Int) 0)) else (none)) else (none)) = some r := by rw [if_neg (show ¬ (false = true) by decide)] at H; exact H
        clear H
        have H := H1
        clear H1
        obtain ⟨ji8, hji8⟩ : ∃ j_ : Int, (wrap64 ((a0.size : Int) + 1)) = j_ := ⟨_, rfl⟩
        replace H : (if 0 ≤ (ji8) then (if (ji8 : Int).toNat ≤ 11728124029610 then ((some (List.replicate (ji8 : Int).toNat [] : List (List Int))).bind fun y105 => (impl_Far.l0 kj2 a0 a1 y105 (y105.length : Int) 0)) else (none)) else (none)) = some r := by first | (rw [hji8] at H; exact H) | (simp only [hji8] at H ⊢; exact H)
        have hji8w : (IntKind.i64.wrap ((a0.size : Int) + 1)) = ji8 := (i64_w _).trans hji8
        by_cases c9 : 0 ≤ (ji8)
        · rw [if_pos c9] at H
          have c9b0 := eq_true c9
          have c9b1 : decide (0 ≤ (ji8)) = true := decide_eq_true c9
          clear c9
          by_cases c10 : (ji8 : Int).toNat ≤ 11728124029610
          · rw [if_pos c10] at H
            have c10b0 := eq_true c10
            have c10b1 : decide ((ji8 : Int).toNat ≤ 11728124029610) = true := decide_eq_true c10
            clear c10
            obtain ⟨y105, hy105⟩ : ∃ y_ : List (List Int), y_ = (List.replicate (ji8 : Int).toNat []) := ⟨_, rfl⟩
            replace H : (impl_Far.l0 kj2 a0 a1 y105 (y105.length : Int) 0) = some r := by first | (rw [hy105]; with_reducible exact H) | (have H2_ := (Option.bind_some _ _).symm.trans H; rw [hy105]; with_reducible exact H2_) | (have H2_ := (Option.bind_some _ _).symm.trans H; with_reducible exact H2_) | with_reducible exact H | (rw [hy105]; exact H) | exact H
            have Ny105 := Aside0.mk hy105
            clear hy105
            have H' := Aside0.mk H
            clear H
            go_wp2_with (first | ((with_reducible refine gate_dst (N := 22) rfl ?_); refine Kd.S_make (Kd.slice 3 (Kd.int .i64)) _ 71 rfl (N := 22) rfl 77 _ _ rfl ji8 rfl rfl Try.underlying77 (.slice none 0 0) 24 info71 rfl (by decide) (by omega) [] (ok := fun _ => True) (okp := fun _ => True) ⟨_, rfl, Kd.R_nil _ _ _ _ _⟩ (fun _ hk => hk) trivial (of_decide_eq_true (by first | (with_reducible assumption) | assumption)) (Nat.le_trans (Nat.mul_le_mul_right _ (of_decide_eq_true (by first | (with_reducible assumption) | assumption) : ji8.toNat ≤ 11728124029610)) (by omega)) (Below.refl _ _) (Nat.le_refl _) ?_; intro v106 w11 ho12 hb hg_ hnew_; clear hg_ hnew_; (first | rw [← Ny105.out] at ho12 | (simp only [Int.reduceToNat] at ho12; rw [← Ny105.out] at ho12)); have n0_ := Aside0.mk (Kd.S_lower ho12 (below_size (by repeat (first | (with_reducible first | exact HB.out | apply below_alloc | apply pw_below_drewN | apply below_drew1) | exact HB.out)))); have n1_ := Aside0.mk (below_step (by repeat (first | (with_reducible first | exact HB.out | apply below_alloc | apply pw_below_drewN | apply below_drew1) | exact HB.out)) hb); clear HB; have HO107 := n0_; have HB := n1_; clear n0_ n1_; clear hb ho12; obtain ⟨Ao13, co13, eo13⟩ := Kd.S_slice HO107.out; subst eo13))
            repeat (go_quiet (first | ((with_reducible refine gate_dst (N := 22) rfl ?_); refine Kd.S_make (Kd.slice 3 (Kd.int .i64)) _ 71 rfl (N := 22) rfl 77 _ _ rfl ji8 rfl rfl Try.underlying77 (.slice none 0 0) 24 info71 rfl (by decide) (by omega) [] (ok := fun _ => True) (okp := fun _ => True) ⟨_, rfl, Kd.R_nil _ _ _ _ _⟩ (fun _ hk => hk) trivial (of_decide_eq_true (by first | (with_reducible assumption) | assumption)) (Nat.le_trans (Nat.mul_le_mul_right _ (of_decide_eq_true (by first | (with_reducible assumption) | assumption) : ji8.toNat ≤ 11728124029610)) (by omega)) (Below.refl _ _) (Nat.le_refl _) ?_; intro v106 w11 ho12 hb hg_ hnew_; clear hg_ hnew_; (first | rw [← Ny105.out] at ho12 | (simp only [Int.reduceToNat] at ho12; rw [← Ny105.out] at ho12)); have n0_ := Aside0.mk (Kd.S_lower ho12 (below_size (by repeat (first | (with_reducible first | exact HB.out | apply below_alloc | apply pw_below_drewN | apply below_drew1) | exact HB.out)))); have n1_ := Aside0.mk (below_step (by repeat (first | (with_reducible first | exact HB.out | apply below_alloc | apply pw_below_drewN | apply below_drew1) | exact HB.out)) hb); clear HB; have HO107 := n0_; have HB := n1_; clear n0_ n1_; clear hb ho12; obtain ⟨Ao13, co13, eo13⟩ := Kd.S_slice HO107.out; subst eo13)); try go_wp2_with (first | ((with_reducible refine gate_dst (N := 22) rfl ?_); refine Kd.S_make (Kd.slice 3 (Kd.int .i64)) _ 71 rfl (N := 22) rfl 77 _ _ rfl ji8 rfl rfl Try.underlying77 (.slice none 0 0) 24 info71 rfl (by decide) (by omega) [] (ok := fun _ => True) (okp := fun _ => True) ⟨_, rfl, Kd.R_nil _ _ _ _ _⟩ (fun _ hk => hk) trivial (of_decide_eq_true (by first | (with_reducible assumption) | assumption)) (Nat.le_trans (Nat.mul_le_mul_right _ (of_decide_eq_true (by first | (with_reducible assumption) | assumption) : ji8.toNat ≤ 11728124029610)) (by omega)) (Below.refl _ _) (Nat.le_refl _) ?_; intro v106 w11 ho12 hb hg_ hnew_; clear hg_ hnew_; (first | rw [← Ny105.out] at ho12 | (simp only [Int.reduceToNat] at ho12; rw [← Ny105.out] at ho12)); have n0_ := Aside0.mk (Kd.S_lower ho12 (below_size (by repeat (first | (with_reducible first | exact HB.out | apply below_alloc | apply pw_below_drewN | apply below_drew1) | exact HB.out)))); have n1_ := Aside0.mk (below_step (by repeat (first | (with_reducible first | exact HB.out | apply below_alloc | apply pw_below_drewN | apply below_drew1) | exact HB.out)) hb); clear HB; have HO107 := n0_; have HB := n1_; clear n0_ n1_; clear hb ho12; obtain ⟨Ao13, co13, eo13⟩ := Kd.S_slice HO107.out; subst eo13)))
            go_loopg [25] kj2 (fun kq v25 w' => ∃ (x5_2 : List (List Int)) (x25_2 : Int), v25 = .int .i64 x25_2 ∧ Aside0 (impl_Far.l0 kq a0 a1 x5_2 (y105.length : Int) x25_2 = some r) ∧ Aside0 (kq ≤ kj2) ∧ Aside0 (Kd.S (Kd.slice 3 (Kd.int .i64)) 71 w' w.heap.size (fun _ => True) (.slice Ao13 y105.length co13) x5_2) ∧ Aside0 (Below w.heap.size w w'))
            case atStart => exact ⟨(y105), (0), (by first | rfl | (simp; done) | (simp [*]; done)), H', ⟨Nat.le_refl _⟩, ⟨by (with_reducible repeat (first | apply Kd.S_alloc | apply Kd.S_drewN | apply Kd.S_drew)); exact HO107.out⟩, ⟨by repeat (first | (with_reducible first | exact HB.out | apply below_alloc | apply pw_below_drewN | apply below_drew1) | exact HB.out)⟩⟩
            case round =>
              clear H'
              try clear c1
              try clear p2
              try clear c3
              try clear c5
              try clear p6
              try clear c7
              try clear c9
              try clear c9b0
              try clear c9b1
              try clear c10
              try clear c10b0
              try clear c10b1
              try clear p2
              obtain ⟨x5_2, x25_2, rfl, HA, HK2, HO_5, HB⟩ := hrel
              have hl5_2 := (Kd.S_reads' HO_5.out).1
              rw [hl5_2] at HO_5
              (try simp only [hl5_2])
              cases gk with
              | zero => exact absurd HA.out (by simp [impl_Far.l0])
              | succ k2 =>
                have H := HA.out
                clear HA
                simp only [impl_Far.l0] at H
                by_cases c14 : x25_2 < (y105.length : Int)
                · rw [if_pos c14] at H
                  have c14b0 : decide (x25_2 < (y105.length : Int)) = true := decide_eq_true c14
                  try have c14b8 := c14b0
                  try simp only [hl5_2] at c14b8
                  clear c14
                  obtain ⟨ji15, hji15⟩ : ∃ j_ : Int, (wrap64 ((a1.size : Int) + 1)) = j_ := ⟨_, rfl⟩
                  replace H : (if 0 ≤ (ji15) then (if (ji15 : Int).toNat ≤ 35184372088832 then (if 0 ≤ x25_2 then (if x25_2 < (x5_2.length : Int) then ((some (x5_2.set (x25_2 : Int).toNat (List.replicate (ji15 : Int).toNat 0) : List (List Int))).bind fun y111 => (if 0 < ((rd_L1 y111 x25_2).length : Int) then (impl_Far.l0 k2 a0 a1 (y111.set (x25_2 : Int).toNat ((rd_L1 y111 x25_2).set (0 : Int).toNat x25_2)) (y105.length : Int) (wrap64 (x25_2 + 1))) else (none))) else (none)) else (none)) else (none)) else (none)) = some r := by first | (rw [hji15] at H; exact H) | (simp only [hji15] at H ⊢; exact H)
                  have hji15w : (IntKind.i64.wrap ((a1.size : Int) + 1)) = ji15 := (i64_w _).trans hji15
                  by_cases c16 : 0 ≤ (ji15)
                  · rw [if_pos c16] at H
                    have c16b0 := eq_true c16
                    have c16b1 : decide (0 ≤ (ji15)) = true := decide_eq_true c16
                    clear c16
                    by_cases c17 : (ji15 : Int).toNat ≤ 35184372088832
                    · rw [if_pos c17] at H
                      have c17b0 := eq_true c17
                      have c17b1 : decide ((ji15 : Int).toNat ≤ 35184372088832) = true := decide_eq_true c17
                      clear c17
                      obtain ⟨y108, hy108⟩ : ∃ y_ : List Int, y_ = (List.replicate (ji15 : Int).toNat 0) := ⟨_, rfl⟩
                      replace H : (if 0 ≤ x25_2 then (if x25_2 < (x5_2.length : Int) then ((some (x5_2.set (x25_2 : Int).toNat y108 : List (List Int))).bind fun y111 => (if 0 < ((rd_L1 y111 x25_2).length : Int) then (impl_Far.l0 k2 a0 a1 (y111.set (x25_2 : Int).toNat ((rd_L1 y111 x25_2).set (0 : Int).toNat x25_2)) (y105.length : Int) (wrap64 (x25_2 + 1))) else (none))) else (none)) else (none)) = some r := by first | (rw [hy108]; with_reducible exact H) | (have H2_ := (Option.bind_some _ _).symm.trans H; rw [hy108]; with_reducible exact H2_) | (have H2_ := (Option.bind_some _ _).symm.trans H; with_reducible exact H2_) | with_reducible exact H | (rw [hy108]; exact H) | exact H
                      have Ny108 := Aside0.mk hy108
                      clear hy108
                      by_cases c18 : 0 ≤ x25_2
                      · rw [if_pos c18] at H
                        have c18b0 : decide (0 ≤ x25_2) = true := decide_eq_true c18
                        clear c18
                        by_cases c19 : x25_2 < (x5_2.length : Int)
                        · rw [if_pos c19] at H
                          have c19b0 : decide (x25_2 < (x5_2.length : Int)) = true := decide_eq_true c19
                          try have c19b8 := c19b0
                          try simp only [hl5_2] at c19b8
                          clear c19
                          obtain ⟨y111, hy111⟩ : ∃ y_ : List (List Int), y_ = (x5_2.set (x25_2 : Int).toNat y108) := ⟨_, rfl⟩
                          replace H : (if 0 < ((rd_L1 y111 x25_2).length : Int) then (impl_Far.l0 k2 a0 a1 (y111.set (x25_2 : Int).toNat ((rd_L1 y111 x25_2).set (0 : Int).toNat x25_2)) (y105.length : Int) (wrap64 (x25_2 + 1))) else (none)) = some r := by first | (rw [hy111]; with_reducible exact H) | (have H2_ := (Option.bind_some _ _).symm.trans H; rw [hy111]; with_reducible exact H2_) | (have H2_ := (Option.bind_some _ _).symm.trans H; with_reducible exact H2_) | with_reducible exact H | (rw [hy111]; exact H) | exact H
                          have Ny111 := Aside0.mk hy111
                          clear hy111
                          by_cases c21 : 0 < ((rd_L1 y111 x25_2).length : Int)
                          · rw [if_pos c21] at H
                            have c21b0 : decide (0 < ((rd_L1 y111 x25_2).length : Int)) = true := decide_eq_true c21
                            try have c21b8 := c21b0
                            try simp only [hl5_2] at c21b8
                            have c21b1 : decide (0 < (rd_L1 y111 x25_2).length) = true := decide_eq_true (by omega)
                            clear c21
                            obtain ⟨y113, hy113⟩ : ∃ y_ : List Int, y_ = ((rd_L1 y111 x25_2).set (0 : Int).toNat x25_2) := ⟨_, rfl⟩
                            replace H : (impl_Far.l0 k2 a0 a1 (y111.set (x25_2 : Int).toNat y113) (y105.length : Int) (wrap64 (x25_2 + 1))) = some r := by first | (rw [hy113]; with_reducible exact H) | (have H2_ := (Option.bind_some _ _).symm.trans H; rw [hy113]; with_reducible exact H2_) | (have H2_ := (Option.bind_some _ _).symm.trans H; with_reducible exact H2_) | with_reducible exact H | (rw [hy113]; exact H) | exact H
                            have Ny113 := Aside0.mk hy113
                            clear hy113
                            obtain ⟨y115, hy115⟩ : ∃ y_ : List (List Int), y_ = (y111.set (x25_2 : Int).toNat y113) := ⟨_, rfl⟩
                            replace H : (impl_Far.l0 k2 a0 a1 y115 (y105.length : Int) (wrap64 (x25_2 + 1))) = some r := by first | (rw [hy115]; with_reducible exact H) | (have H2_ := (Option.bind_some _ _).symm.trans H; rw [hy115]; with_reducible exact H2_) | (have H2_ := (Option.bind_some _ _).symm.trans H; with_reducible exact H2_) | with_reducible exact H | (rw [hy115]; exact H) | exact H
                            have Ny115 := Aside0.mk hy115
                            clear hy115
                            have H' := Aside0.mk H
                            clear H
                            go_wp2_with (first | ((with_reducible refine gate_dst (N := 33) rfl ?_); refine Kd.R_make (Kd.int .i64) _ 3 rfl (N := 33) rfl 71 _ _ rfl ji15 rfl rfl Try.underlying71 (.int .i64 0) 8 info3 rfl (by decide) (by omega) 0 (ok := fun _ => True) (okp := fun _ => True) rfl (fun _ hk => hk) trivial (of_decide_eq_true (by first | (with_reducible assumption) | assumption)) (Nat.le_trans (Nat.mul_le_mul_right _ (of_decide_eq_true (by first | (with_reducible assumption) | assumption) : ji15.toNat ≤ 35184372088832)) (by omega)) (Below.refl _ _) (Nat.le_refl _) ?_; intro v109 w23 ho24 hb hg_ hnew_; clear hg_ hnew_; (first | rw [← Ny108.out] at ho24 | (simp only [Int.reduceToNat] at ho24; rw [← Ny108.out] at ho24)); have n0_ := Aside0.mk (Kd.S_elder' (by (with_reducible repeat (first | apply Kd.S_alloc | apply Kd.S_drewN | apply Kd.S_drew)); exact HO_5.out) (Kd.R_base ho24) hb); have n1_ := Aside0.mk (Kd.R_lower ho24 (below_size (by repeat (first | (with_reducible first | exact HB.out | apply below_alloc | apply pw_below_drewN | apply below_drew1) | exact HB.out)))); have n2_ := Aside0.mk (below_step (by repeat (first | (with_reducible first | exact HB.out | apply below_alloc | apply pw_below_drewN | apply below_drew1) | exact HB.out)) hb); clear HO_5; clear HB; have HO_5 := n0_; have HO110 := n1_; have HB := n2_; clear n0_ n1_ n2_; clear hb ho24; have p20 : 0 ≤ (x25_2 : Int) := of_decide_eq_true (by first | (with_reducible assumption) | assumption); have q20 : (x25_2 : Int) < ((x5_2.length : Int) : Int) := of_decide_eq_true (by first | (with_reducible assumption) | assumption); obtain ⟨go20, co20, eo20, gb20, gl20, cl20, HG20⟩ := Kd.S_form HO_5.out (by omega); (first | cases eo20 | (injection eo20 with ea_ en_ ec_; (first | subst ea_ | (injection ea_ with ea_; subst ea_)); subst ec_; clear en_)); have GB20 := Aside0.mk gb20; have GG20 := Aside0.mk HG20; clear gb20 gl20 HG20; obtain ⟨_, ce20, hcl20, hM20, hcc20, hfr20, _, _⟩ := Kd.S_elem HO_5.out [] (x25_2 : Int) p20 q20; obtain ⟨ve20_0, rfl, ge20_0⟩ := hM20; have hx20_0 := hcc20 0 _ rfl; have hf20_0 := hfr20 0; (try simp only [show ((Kd.slice 3 (Kd.int .i64))).sz = 1 from rfl, Nat.mul_one, Nat.add_zero] at hx20_0); (try simp only [show ((Kd.slice 3 (Kd.int .i64))).sz = 1 from rfl, Nat.mul_one, Nat.add_zero] at hf20_0); clear hcl20 hcc20 hfr20; (try clear hM20); replace p20 := eq_true p20; replace q20 := eq_true q20; have n_ := Aside0.mk (Kd.S_mono (ok' := (fun k_ => some k_ ≠ (v109 : Value).ownBlock)) HO_5.out (fun k_ hk => hk.2)); clear HO_5; have HO_5 := n_; clear n_; have HX25 := Aside0.mk (show Kd.S (Kd.slice 3 (Kd.int .i64)) 71 w23 w.heap.size (fun k_ => ((fun _ => True)) k_ ∧ ¬ ((fun k_ => some k_ = (v109 : Value).ownBlock)) k_) (.slice (some ⟨go20, 0, none⟩) x5_2.length co13) x5_2 from (by (with_reducible repeat (first | apply Kd.S_alloc | apply Kd.S_drewN | apply Kd.S_drew)); exact Kd.S_mono HO_5.out (fun k_ hk => ⟨trivial, fun e_ => hk e_⟩))); obtain ⟨oki25, ce25, hcl25, hM25, hcc25, hfr25, hoki25, hH25⟩ := Kd.S_elem HX25.out [] (x25_2 : Int) (of_decide_eq_true (by first | (with_reducible assumption) | assumption)) (by have h_ : (x25_2 : Int) < ((x5_2.length : Int) : Int) := of_decide_eq_true (by first | (with_reducible assumption) | assumption); first | exact h_ | (have e_ := (Kd.S_reads' HO_5.out).1; omega) | simpa using h_); obtain ⟨ve25_0, rfl, ge25_0⟩ := hM25; have HP25 := Kd.S_seg hH25 (of_decide_eq_true (by first | (with_reducible assumption) | assumption)) (by have h_ : (x25_2 : Int) < ((x5_2.length : Int) : Int) := of_decide_eq_true (by first | (with_reducible assumption) | assumption); first | exact h_ | (have e_ := (Kd.S_reads' HO_5.out).1; omega) | simpa using h_) (seg := [v109]) (j := 0) (show 1 ≤ 1 from by decide) (x' := y108) (Kd.M_row (Kd.R_mono (Kd.R_tight rfl (Kd.R_mono (ok' := fun k_ => ((fun _ => True)) k_ ∧ k_ ≠ go20) (Kd.R_apart' (HO110.out) (Kd.S_typed HO_5.out) (by decide)) (fun k_ hk => ⟨trivial, fun e_ => (hk.2) (by rw [e_]; rfl)⟩))) (fun _ h_ => Or.inr (h_)))) (fun _ hk => hk) (fun k_ hk_ => ((Kd.R_mono (ok' := fun k_ => ((fun _ => True)) k_ ∧ k_ ≠ go20) (Kd.R_apart' (HO110.out) (Kd.S_typed HO_5.out) (by decide)) (fun k_ hk => ⟨trivial, fun e_ => (hk.2) (by rw [e_]; rfl)⟩))).1 k_ hk_.symm); have hx25_0 := hcc25 0 _ rfl; (try simp only [show ((Kd.slice 3 (Kd.int .i64))).sz = 1 from rfl, Nat.mul_one, Nat.add_zero] at hx25_0); have hf25_0 := hfr25 0; (try simp only [show ((Kd.slice 3 (Kd.int .i64))).sz = 1 from rfl, Nat.mul_one, Nat.add_zero] at hf25_0); clear hcl25 hcc25 hfr25 hoki25 hH25; (try clear hM25); (try simp only [show ((Kd.slice 3 (Kd.int .i64))).sz = 1 from rfl, Nat.mul_one, Nat.add_zero] at HP25)) | ((with_reducible refine gate_store (t := 71) (p := 34) rfl ?_); (try (rw [drewN_self w23]; generalize hq_ : World.drewN w23 _ = w23; have n0_ := Aside0.mk (Kd.S_at hq_ HO_5.out); have n1_ := Aside0.mk (below_at hq_ HB.out); clear hq_ HO_5 HB; have HO_5 := n0_; have HB := n1_; clear n0_ n1_; (try (have n_ := Aside0.mk (Kd.S_mono (ok' := (fun k_ => some k_ ≠ (v109 : Value).ownBlock)) HO_5.out (fun k_ hk => hk.2)); clear HO_5; have HO_5 := n_; clear n_)); (try (have HX25 := Aside0.mk (show Kd.S (Kd.slice 3 (Kd.int .i64)) 71 w23 w.heap.size (fun k_ => ((fun _ => True)) k_ ∧ ¬ ((fun k_ => some k_ = (v109 : Value).ownBlock)) k_) (.slice (some ⟨go20, 0, none⟩) x5_2.length co13) x5_2 from (by (with_reducible repeat (first | apply Kd.S_alloc | apply Kd.S_drewN | apply Kd.S_drew)); exact Kd.S_mono HO_5.out (fun k_ hk => ⟨trivial, fun e_ => hk e_⟩))))); (try (obtain ⟨oki25, ce25, hcl25, hM25, hcc25, hfr25, hoki25, hH25⟩ := Kd.S_elem HX25.out [] (x25_2 : Int) (of_decide_eq_true (by first | (with_reducible assumption) | assumption)) (by have h_ : (x25_2 : Int) < ((x5_2.length : Int) : Int) := of_decide_eq_true (by first | (with_reducible assumption) | assumption); first | exact h_ | (have e_ := (Kd.S_reads' HO_5.out).1; omega) | simpa using h_))); (try (obtain ⟨ve25_0, rfl, ge25_0⟩ := hM25)); (try (have HP25 := Kd.S_seg hH25 (of_decide_eq_true (by first | (with_reducible assumption) | assumption)) (by have h_ : (x25_2 : Int) < ((x5_2.length : Int) : Int) := of_decide_eq_true (by first | (with_reducible assumption) | assumption); first | exact h_ | (have e_ := (Kd.S_reads' HO_5.out).1; omega) | simpa using h_) (seg := [v109]) (j := 0) (show 1 ≤ 1 from by decide) (x' := y108) (Kd.M_row (Kd.R_mono (Kd.R_tight rfl (Kd.R_mono (ok' := fun k_ => ((fun _ => True)) k_ ∧ k_ ≠ go20) (Kd.R_apart' (HO110.out) (Kd.S_typed HO_5.out) (by decide)) (fun k_ hk => ⟨trivial, fun e_ => (hk.2) (by rw [e_]; rfl)⟩))) (fun _ h_ => Or.inr (h_)))) (fun _ hk => hk) (fun k_ hk_ => ((Kd.R_mono (ok' := fun k_ => ((fun _ => True)) k_ ∧ k_ ≠ go20) (Kd.R_apart' (HO110.out) (Kd.S_typed HO_5.out) (by decide)) (fun k_ hk => ⟨trivial, fun e_ => (hk.2) (by rw [e_]; rfl)⟩))).1 k_ hk_.symm))); (try (have hx25_0 := hcc25 0 _ rfl)); (try (try simp only [show ((Kd.slice 3 (Kd.int .i64))).sz = 1 from rfl, Nat.mul_one, Nat.add_zero] at hx25_0)); (try (have hf25_0 := hfr25 0)); (try (try simp only [show ((Kd.slice 3 (Kd.int .i64))).sz = 1 from rfl, Nat.mul_one, Nat.add_zero] at hf25_0)); (try (clear hcl25 hcc25 hfr25 hoki25 hH25; (try clear hM25))); (try (try simp only [show ((Kd.slice 3 (Kd.int .i64))).sz = 1 from rfl, Nat.mul_one, Nat.add_zero] at HP25)))); have hcs_ := (by obtain ⟨A_, c_, e_⟩ := Kd.R_slice HO110.out; rw [e_]; rfl : Value.cells v109 = #[v109]); unfold Value.cells at hcs_; have hst_ := (by obtain ⟨A_, c_, e_⟩ := Kd.R_slice HO110.out; intro a_ w_ m_; rw [e_]; exact run_store_slice _ _ _ _ _ _ _ : ∀ (a_ : Addr) (w_ : World) (m_ : Mode), (store a_ v109 m_).run Try.prog w_ = stored Try.prog w_ a_ v109 m_); refine store_event (t := 71) (p := 34) (v := ?vo_w26) (w1 := (w23.setCell ⟨go20, (x25_2 : Int).toNat, none⟩ (v109))) ?hg ?ho ?hn ?hr ?_; (case ho => rfl); (case hg => rfl); (case hn => rfl); (case hr => first | (go_simp; done) | (go_simp; rfl)); intro w26 hw; have hg : w23.grownBy w26 (some go20) := (by rw [hw]; exact HP25.2); have hp_ : Kd.S (Kd.slice 3 (Kd.int .i64)) 71 w26 w.heap.size (fun _ => True) (.slice (some ⟨go20, 0, none⟩) x5_2.length co13) y111 := (by rw [hw, Ny111.out]; exact HP25.1); clear HP25; have n0_ := Aside0.mk (hp_); have n1_ := Aside0.mk ((by rw [hw]; exact below_set (HB.out) GB20.out : Below w.heap.size w w26)); clear HO_5; clear HB; clear HO110; have HO_5 := n0_; have HB := n1_; clear n0_ n1_; clear hg hw hp_; have p112 : 0 ≤ (x25_2 : Int) := of_decide_eq_true (by first | (with_reducible assumption) | assumption); have q112 : x25_2 < (y111.length : Int) := (by have h_ : (x25_2 : Int) < ((x5_2.length : Int) : Int) := of_decide_eq_true (by first | (with_reducible assumption) | assumption); first | (have e_ := (Kd.S_reads' HO_5.out).1; omega) | simpa only [Ny111.out, List.length_set] using h_); have ql112 : ((x25_2 : Int) < ((x5_2.length : Int) : Int)) = True := eq_true (of_decide_eq_true (by first | (with_reducible assumption) | assumption)); obtain ⟨ad112, A112_0, c112_0, e112, hx112_0, hl112_0, hi112_0⟩ := at_L1 (Kd.S_reads' HO_5.out).2.2 x25_2 p112 q112; obtain rfl : (⟨go20, 0, none⟩ : Addr) = ad112 := (by injection e112); obtain ⟨ce112, hce112, hMe112, hcc112⟩ := Kd.S_get HO_5.out [] x25_2 p112 (by first | exact q112 | exact of_decide_eq_true (by first | (with_reducible assumption) | assumption) | (have e_ := (Kd.S_reads' HO_5.out).1; omega)); obtain ⟨ve112_0, rfl, ge112_0⟩ := hMe112; have hv112_0 := hcc112 0 _ rfl; rw [Nat.add_zero, show ((Kd.slice 3 (Kd.int .i64))).sz = 1 from rfl, Nat.mul_one] at hv112_0; replace hv112_0 := Option.some.inj (hv112_0.symm.trans hx112_0); rw [hv112_0] at ge112_0; have HL112_0 := Aside0.mk (show Kd.R (Kd.int .i64) 3 _ _ _ _ (rd_L1 y111 x25_2) from ge112_0); clear hv112_0 ge112_0; have HX112_0 := Aside0.mk hx112_0; clear hcc112 hce112; (first | simp only [add_plain] at hx112_0 | simp only [add_at] at hx112_0 | simp only [Addr.add, Nat.zero_add] at hx112_0 | skip); have HR112_0 := Aside0.mk hi112_0; have HC112_0 := Aside0.mk hl112_0; clear hi112_0 hl112_0; replace p112 := eq_true p112; replace q112 := eq_true q112; have p22 : 0 ≤ (0 : Int) := (by omega); have q22 : (0 : Int) < (((rd_L1 y111 x25_2).length : Int) : Int) := of_decide_eq_true (by first | (with_reducible assumption) | assumption); have qi22 : (0 < (rd_L1 y111 x25_2).length) = True := eq_true (by omega); obtain ⟨go22, co22, eo22, gb22, gl22, cl22, HG22⟩ := Kd.R_form HL112_0.out (by omega); (first | cases eo22 | (injection eo22 with ea_ en_ ec_; (first | subst ea_ | (injection ea_ with ea_; subst ea_)); subst ec_; clear en_)); have GB22 := Aside0.mk gb22; have GG22 := Aside0.mk HG22; clear gb22 gl22 HG22; obtain ⟨hx22_0, hf22_0⟩ := Kd.R_celln 0 HL112_0.out (0 : Int) p22 q22; (try rw [show ((0 : Int)).toNat = 0 from rfl] at hx22_0); (try simp only [Nat.reduceMul, Nat.zero_mul, Nat.zero_add, Nat.reduceAdd] at hx22_0); (try rw [show ((0 : Int)).toNat = 0 from rfl] at hf22_0); (try simp only [Nat.reduceMul, Nat.zero_mul, Nat.zero_add, Nat.reduceAdd] at hf22_0); replace p22 := eq_true p22; replace q22 := eq_true q22; have hq27 : (x25_2 : Int) < (y111.length : Int) := (by have h_ : (x25_2 : Int) < ((x5_2.length : Int) : Int) := of_decide_eq_true (by first | (with_reducible assumption) | assumption); first | exact h_ | (have e_ := (Kd.S_reads' HO_5.out).1; omega) | simpa only [Ny111.out, List.length_set] using h_); obtain ⟨oki27, ce27, hcl27, hM27, hcc27, hok27, hbk27⟩ := Kd.S_borrow HO_5.out [] (x25_2 : Int) (of_decide_eq_true (by first | (with_reducible assumption) | assumption)) (by first | exact hq27 | exact of_decide_eq_true (by first | (with_reducible assumption) | assumption) | (have e_ := (Kd.S_reads' HO_5.out).1; omega)); obtain ⟨ve27_0, rfl, ge27_0⟩ := hM27; have hv27 := hcc27 0 _ rfl; rw [Nat.add_zero, show ((Kd.slice 3 (Kd.int .i64))).sz = 1 from rfl, Nat.mul_one] at hv27; replace hv27 := Option.some.inj (hv27.symm.trans HX112_0.out); subst hv27; clear hcc27 hcl27; replace ge27_0 := (show Kd.R (Kd.int .i64) 3 _ _ _ _ (rd_L1 y111 x25_2) from ge27_0); have HP27 := Kd.R_putg ge27_0 (0 : Int) x25_2) | ((with_reducible refine gate_store (t := 3) (p := 40) rfl ?_); (try (rw [drewN_self w26]; generalize hq_ : World.drewN w26 _ = w26; have n0_ := Aside0.mk (Kd.S_at hq_ HO_5.out); have n1_ := Aside0.mk (Kd.R_at hq_ HL139.out); have n2_ := Aside0.mk (below_at hq_ HB.out); clear hq_ HO_5 HL139 HB; have HO_5 := n0_; have HL139 := n1_; have HB := n2_; clear n0_ n1_ n2_; (try (have hq27 : (x25_2 : Int) < (y111.length : Int) := (by have h_ : (x25_2 : Int) < ((x5_2.length : Int) : Int) := of_decide_eq_true (by first | (with_reducible assumption) | assumption); first | exact h_ | (have e_ := (Kd.S_reads' HO_5.out).1; omega) | simpa only [Ny111.out, List.length_set] using h_))); (try (obtain ⟨oki27, ce27, hcl27, hM27, hcc27, hok27, hbk27⟩ := Kd.S_borrow HO_5.out [] (x25_2 : Int) (of_decide_eq_true (by first | (with_reducible assumption) | assumption)) hq27)); (try (obtain ⟨ve27_0, rfl, ge27_0⟩ := hM27)); (try (have hv27 := hcc27 0 _ rfl)); (try (rw [Nat.add_zero, show ((Kd.slice 3 (Kd.int .i64))).sz = 1 from rfl, Nat.mul_one] at hv27)); (try (replace hv27 := Option.some.inj (hv27.symm.trans HX112_0.out))); (try (subst hv27)); (try (clear hcc27 hcl27)); (try (replace ge27_0 := (show Kd.R (Kd.int .i64) 3 _ _ _ _ (rd_L1 y111 x25_2) from ge27_0))); (try (have HP27 := Kd.R_putg ge27_0 (0 : Int) x25_2)))); refine store_event (t := 3) (p := 40) (v := ?vo_w28) (w1 := (w26.setCell ⟨go22, 0, none⟩ (.int .i64 x25_2))) ?hg ?ho ?hn ?hr ?_; (case ho => rfl); (case hg => rfl); (case hn => rfl); (case hr => first | (go_simp; done) | (go_simp; rfl)); intro w28 hw; have hg : w26.grownBy w28 (some go22) := (by rw [hw]; exact HP27.2); have hz_ : Kd.R (Kd.int .i64) 3 w28 w.heap.size oki27 (.slice (some ⟨go22, 0, none⟩) (rd_L1 y111 x25_2).length c112_0) y113 := (by rw [hw, Ny113.out]; exact HP27.1); have hp_ : Kd.S (Kd.slice 3 (Kd.int .i64)) 71 w28 w.heap.size (fun _ => True) (.slice (some ⟨go20, 0, none⟩) x5_2.length co13) y115 := (by rw [Ny115.out]; exact hbk27 hg (fun k_ e_ => by injection e_ with e_; subst e_; exact ge27_0.1 _ rfl) (Kd.M_row hz_)); have hm_ := Kd.R_mono hz_ hok27; clear HP27 hbk27; have n0_ := Aside0.mk (hp_); have n1_ := Aside0.mk ((by rw [hw]; exact below_set (HB.out) GB22.out : Below w.heap.size w w28)); have n2_ := Aside0.mk (hm_); have n3_ := Aside0.mk ((Kd.R_reads' hm_).2.1); clear HO_5; clear HB; clear HL112_0; have HO_5 := n0_; have HB := n1_; have HL139 := n2_; have HC114 := n3_; clear n0_ n1_ n2_ n3_; clear hg hw hp_ hz_ hm_ hok27))
                            repeat (go_quiet (first | ((with_reducible refine gate_dst (N := 33) rfl ?_); refine Kd.R_make (Kd.int .i64) _ 3 rfl (N := 33) rfl 71 _ _ rfl ji15 rfl rfl Try.underlying71 (.int .i64 0) 8 info3 rfl (by decide) (by omega) 0 (ok := fun _ => True) (okp := fun _ => True) rfl (fun _ hk => hk) trivial (of_decide_eq_true (by first | (with_reducible assumption) | assumption)) (Nat.le_trans (Nat.mul_le_mul_right _ (of_decide_eq_true (by first | (with_reducible assumption) | assumption) : ji15.toNat ≤ 35184372088832)) (by omega)) (Below.refl _ _) (Nat.le_refl _) ?_; intro v109 w23 ho24 hb hg_ hnew_; clear hg_ hnew_; (first | rw [← Ny108.out] at ho24 | (simp only [Int.reduceToNat] at ho24; rw [← Ny108.out] at ho24)); have n0_ := Aside0.mk (Kd.S_elder' (by (with_reducible repeat (first | apply Kd.S_alloc | apply Kd.S_drewN | apply Kd.S_drew)); exact HO_5.out) (Kd.R_base ho24) hb); have n1_ := Aside0.mk (Kd.R_lower ho24 (below_size (by repeat (first | (with_reducible first | exact HB.out | apply below_alloc | apply pw_below_drewN | apply below_drew1) | exact HB.out)))); have n2_ := Aside0.mk (below_step (by repeat (first | (with_reducible first | exact HB.out | apply below_alloc | apply pw_below_drewN | apply below_drew1) | exact HB.out)) hb); clear HO_5; clear HB; have HO_5 := n0_; have HO110 := n1_; have HB := n2_; clear n0_ n1_ n2_; clear hb ho24; have p20 : 0 ≤ (x25_2 : Int) := of_decide_eq_true (by first | (with_reducible assumption) | assumption); have q20 : (x25_2 : Int) < ((x5_2.length : Int) : Int) := of_decide_eq_true (by first | (with_reducible assumption) | assumption); obtain ⟨go20, co20, eo20, gb20, gl20, cl20, HG20⟩ := Kd.S_form HO_5.out (by omega); (first | cases eo20 | (injection eo20 with ea_ en_ ec_; (first | subst ea_ | (injection ea_ with ea_; subst ea_)); subst ec_; clear en_)); have GB20 := Aside0.mk gb20; have GG20 := Aside0.mk HG20; clear gb20 gl20 HG20; obtain ⟨_, ce20, hcl20, hM20, hcc20, hfr20, _, _⟩ := Kd.S_elem HO_5.out [] (x25_2 : Int) p20 q20; obtain ⟨ve20_0, rfl, ge20_0⟩ := hM20; have hx20_0 := hcc20 0 _ rfl; have hf20_0 := hfr20 0; (try simp only [show ((Kd.slice 3 (Kd.int .i64))).sz = 1 from rfl, Nat.mul_one, Nat.add_zero] at hx20_0); (try simp only [show ((Kd.slice 3 (Kd.int .i64))).sz = 1 from rfl, Nat.mul_one, Nat.add_zero] at hf20_0); clear hcl20 hcc20 hfr20; (try clear hM20); replace p20 := eq_true p20; replace q20 := eq_true q20; have n_ := Aside0.mk (Kd.S_mono (ok' := (fun k_ => some k_ ≠ (v109 : Value).ownBlock)) HO_5.out (fun k_ hk => hk.2)); clear HO_5; have HO_5 := n_; clear n_; have HX25 := Aside0.mk (show Kd.S (Kd.slice 3 (Kd.int .i64)) 71 w23 w.heap.size (fun k_ => ((fun _ => True)) k_ ∧ ¬ ((fun k_ => some k_ = (v109 : Value).ownBlock)) k_) (.slice (some ⟨go20, 0, none⟩) x5_2.length co13) x5_2 from (by (with_reducible repeat (first | apply Kd.S_alloc | apply Kd.S_drewN | apply Kd.S_drew)); exact Kd.S_mono HO_5.out (fun k_ hk => ⟨trivial, fun e_ => hk e_⟩))); obtain ⟨oki25, ce25, hcl25, hM25, hcc25, hfr25, hoki25, hH25⟩ := Kd.S_elem HX25.out [] (x25_2 : Int) (of_decide_eq_true (by first | (with_reducible assumption) | assumption)) (by have h_ : (x25_2 : Int) < ((x5_2.length : Int) : Int) := of_decide_eq_true (by first | (with_reducible assumption) | assumption); first | exact h_ | (have e_ := (Kd.S_reads' HO_5.out).1; omega) | simpa using h_); obtain ⟨ve25_0, rfl, ge25_0⟩ := hM25; have HP25 := Kd.S_seg hH25 (of_decide_eq_true (by first | (with_reducible assumption) | assumption)) (by have h_ : (x25_2 : Int) < ((x5_2.length : Int) : Int) := of_decide_eq_true (by first | (with_reducible assumption) | assumption); first | exact h_ | (have e_ := (Kd.S_reads' HO_5.out).1; omega) | simpa using h_) (seg := [v109]) (j := 0) (show 1 ≤ 1 from by decide) (x' := y108) (Kd.M_row (Kd.R_mono (Kd.R_tight rfl (Kd.R_mono (ok' := fun k_ => ((fun _ => True)) k_ ∧ k_ ≠ go20) (Kd.R_apart' (HO110.out) (Kd.S_typed HO_5.out) (by decide)) (fun k_ hk => ⟨trivial, fun e_ => (hk.2) (by rw [e_]; rfl)⟩))) (fun _ h_ => Or.inr (h_)))) (fun _ hk => hk) (fun k_ hk_ => ((Kd.R_mono (ok' := fun k_ => ((fun _ => True)) k_ ∧ k_ ≠ go20) (Kd.R_apart' (HO110.out) (Kd.S_typed HO_5.out) (by decide)) (fun k_ hk => ⟨trivial, fun e_ => (hk.2) (by rw [e_]; rfl)⟩))).1 k_ hk_.symm); have hx25_0 := hcc25 0 _ rfl; (try simp only [show ((Kd.slice 3 (Kd.int .i64))).sz = 1 from rfl, Nat.mul_one, Nat.add_zero] at hx25_0); have hf25_0 := hfr25 0; (try simp only [show ((Kd.slice 3 (Kd.int .i64))).sz = 1 from rfl, Nat.mul_one, Nat.add_zero] at hf25_0); clear hcl25 hcc25 hfr25 hoki25 hH25; (try clear hM25); (try simp only [show ((Kd.slice 3 (Kd.int .i64))).sz = 1 from rfl, Nat.mul_one, Nat.add_zero] at HP25)) | ((with_reducible refine gate_store (t := 71) (p := 34) rfl ?_); (try (rw [drewN_self w23]; generalize hq_ : World.drewN w23 _ = w23; have n0_ := Aside0.mk (Kd.S_at hq_ HO_5.out); have n1_ := Aside0.mk (below_at hq_ HB.out); clear hq_ HO_5 HB; have HO_5 := n0_; have HB := n1_; clear n0_ n1_; (try (have n_ := Aside0.mk (Kd.S_mono (ok' := (fun k_ => some k_ ≠ (v109 : Value).ownBlock)) HO_5.out (fun k_ hk => hk.2)); clear HO_5; have HO_5 := n_; clear n_)); (try (have HX25 := Aside0.mk (show Kd.S (Kd.slice 3 (Kd.int .i64)) 71 w23 w.heap.size (fun k_ => ((fun _ => True)) k_ ∧ ¬ ((fun k_ => some k_ = (v109 : Value).ownBlock)) k_) (.slice (some ⟨go20, 0, none⟩) x5_2.length co13) x5_2 from (by (with_reducible repeat (first | apply Kd.S_alloc | apply Kd.S_drewN | apply Kd.S_drew)); exact Kd.S_mono HO_5.out (fun k_ hk => ⟨trivial, fun e_ => hk e_⟩))))); (try (obtain ⟨oki25, ce25, hcl25, hM25, hcc25, hfr25, hoki25, hH25⟩ := Kd.S_elem HX25.out [] (x25_2 : Int) (of_decide_eq_true (by first | (with_reducible assumption) | assumption)) (by have h_ : (x25_2 : Int) < ((x5_2.length : Int) : Int) := of_decide_eq_true (by first | (with_reducible assumption) | assumption); first | exact h_ | (have e_ := (Kd.S_reads' HO_5.out).1; omega) | simpa using h_))); (try (obtain ⟨ve25_0, rfl, ge25_0⟩ := hM25)); (try (have HP25 := Kd.S_seg hH25 (of_decide_eq_true (by first | (with_reducible assumption) | assumption)) (by have h_ : (x25_2 : Int) < ((x5_2.length : Int) : Int) := of_decide_eq_true (by first | (with_reducible assumption) | assumption); first | exact h_ | (have e_ := (Kd.S_reads' HO_5.out).1; omega) | simpa using h_) (seg := [v109]) (j := 0) (show 1 ≤ 1 from by decide) (x' := y108) (Kd.M_row (Kd.R_mono (Kd.R_tight rfl (Kd.R_mono (ok' := fun k_ => ((fun _ => True)) k_ ∧ k_ ≠ go20) (Kd.R_apart' (HO110.out) (Kd.S_typed HO_5.out) (by decide)) (fun k_ hk => ⟨trivial, fun e_ => (hk.2) (by rw [e_]; rfl)⟩))) (fun _ h_ => Or.inr (h_)))) (fun _ hk => hk) (fun k_ hk_ => ((Kd.R_mono (ok' := fun k_ => ((fun _ => True)) k_ ∧ k_ ≠ go20) (Kd.R_apart' (HO110.out) (Kd.S_typed HO_5.out) (by decide)) (fun k_ hk => ⟨trivial, fun e_ => (hk.2) (by rw [e_]; rfl)⟩))).1 k_ hk_.symm))); (try (have hx25_0 := hcc25 0 _ rfl)); (try (try simp only [show ((Kd.slice 3 (Kd.int .i64))).sz = 1 from rfl, Nat.mul_one, Nat.add_zero] at hx25_0)); (try (have hf25_0 := hfr25 0)); (try (try simp only [show ((Kd.slice 3 (Kd.int .i64))).sz = 1 from rfl, Nat.mul_one, Nat.add_zero] at hf25_0)); (try (clear hcl25 hcc25 hfr25 hoki25 hH25; (try clear hM25))); (try (try simp only [show ((Kd.slice 3 (Kd.int .i64))).sz = 1 from rfl, Nat.mul_one, Nat.add_zero] at HP25)))); have hcs_ := (by obtain ⟨A_, c_, e_⟩ := Kd.R_slice HO110.out; rw [e_]; rfl : Value.cells v109 = #[v109]); unfold Value.cells at hcs_; have hst_ := (by obtain ⟨A_, c_, e_⟩ := Kd.R_slice HO110.out; intro a_ w_ m_; rw [e_]; exact run_store_slice _ _ _ _ _ _ _ : ∀ (a_ : Addr) (w_ : World) (m_ : Mode), (store a_ v109 m_).run Try.prog w_ = stored Try.prog w_ a_ v109 m_); refine store_event (t := 71) (p := 34) (v := ?vo_w26) (w1 := (w23.setCell ⟨go20, (x25_2 : Int).toNat, none⟩ (v109))) ?hg ?ho ?hn ?hr ?_; (case ho => rfl); (case hg => rfl); (case hn => rfl); (case hr => first | (go_simp; done) | (go_simp; rfl)); intro w26 hw; have hg : w23.grownBy w26 (some go20) := (by rw [hw]; exact HP25.2); have hp_ : Kd.S (Kd.slice 3 (Kd.int .i64)) 71 w26 w.heap.size (fun _ => True) (.slice (some ⟨go20, 0, none⟩) x5_2.length co13) y111 := (by rw [hw, Ny111.out]; exact HP25.1); clear HP25; have n0_ := Aside0.mk (hp_); have n1_ := Aside0.mk ((by rw [hw]; exact below_set (HB.out) GB20.out : Below w.heap.size w w26)); clear HO_5; clear HB; clear HO110; have HO_5 := n0_; have HB := n1_; clear n0_ n1_; clear hg hw hp_; have p112 : 0 ≤ (x25_2 : Int) := of_decide_eq_true (by first | (with_reducible assumption) | assumption); have q112 : x25_2 < (y111.length : Int) := (by have h_ : (x25_2 : Int) < ((x5_2.length : Int) : Int) := of_decide_eq_true (by first | (with_reducible assumption) | assumption); first | (have e_ := (Kd.S_reads' HO_5.out).1; omega) | simpa only [Ny111.out, List.length_set] using h_); have ql112 : ((x25_2 : Int) < ((x5_2.length : Int) : Int)) = True := eq_true (of_decide_eq_true (by first | (with_reducible assumption) | assumption)); obtain ⟨ad112, A112_0, c112_0, e112, hx112_0, hl112_0, hi112_0⟩ := at_L1 (Kd.S_reads' HO_5.out).2.2 x25_2 p112 q112; obtain rfl : (⟨go20, 0, none⟩ : Addr) = ad112 := (by injection e112); obtain ⟨ce112, hce112, hMe112, hcc112⟩ := Kd.S_get HO_5.out [] x25_2 p112 (by first | exact q112 | exact of_decide_eq_true (by first | (with_reducible assumption) | assumption) | (have e_ := (Kd.S_reads' HO_5.out).1; omega)); obtain ⟨ve112_0, rfl, ge112_0⟩ := hMe112; have hv112_0 := hcc112 0 _ rfl; rw [Nat.add_zero, show ((Kd.slice 3 (Kd.int .i64))).sz = 1 from rfl, Nat.mul_one] at hv112_0; replace hv112_0 := Option.some.inj (hv112_0.symm.trans hx112_0); rw [hv112_0] at ge112_0; have HL112_0 := Aside0.mk (show Kd.R (Kd.int .i64) 3 _ _ _ _ (rd_L1 y111 x25_2) from ge112_0); clear hv112_0 ge112_0; have HX112_0 := Aside0.mk hx112_0; clear hcc112 hce112; (first | simp only [add_plain] at hx112_0 | simp only [add_at] at hx112_0 | simp only [Addr.add, Nat.zero_add] at hx112_0 | skip); have HR112_0 := Aside0.mk hi112_0; have HC112_0 := Aside0.mk hl112_0; clear hi112_0 hl112_0; replace p112 := eq_true p112; replace q112 := eq_true q112; have p22 : 0 ≤ (0 : Int) := (by omega); have q22 : (0 : Int) < (((rd_L1 y111 x25_2).length : Int) : Int) := of_decide_eq_true (by first | (with_reducible assumption) | assumption); have qi22 : (0 < (rd_L1 y111 x25_2).length) = True := eq_true (by omega); obtain ⟨go22, co22, eo22, gb22, gl22, cl22, HG22⟩ := Kd.R_form HL112_0.out (by omega); (first | cases eo22 | (injection eo22 with ea_ en_ ec_; (first | subst ea_ | (injection ea_ with ea_; subst ea_)); subst ec_; clear en_)); have GB22 := Aside0.mk gb22; have GG22 := Aside0.mk HG22; clear gb22 gl22 HG22; obtain ⟨hx22_0, hf22_0⟩ := Kd.R_celln 0 HL112_0.out (0 : Int) p22 q22; (try rw [show ((0 : Int)).toNat = 0 from rfl] at hx22_0); (try simp only [Nat.reduceMul, Nat.zero_mul, Nat.zero_add, Nat.reduceAdd] at hx22_0); (try rw [show ((0 : Int)).toNat = 0 from rfl] at hf22_0); (try simp only [Nat.reduceMul, Nat.zero_mul, Nat.zero_add, Nat.reduceAdd] at hf22_0); replace p22 := eq_true p22; replace q22 := eq_true q22; have hq27 : (x25_2 : Int) < (y111.length : Int) := (by have h_ : (x25_2 : Int) < ((x5_2.length : Int) : Int) := of_decide_eq_true (by first | (with_reducible assumption) | assumption); first | exact h_ | (have e_ := (Kd.S_reads' HO_5.out).1; omega) | simpa only [Ny111.out, List.length_set] using h_); obtain ⟨oki27, ce27, hcl27, hM27, hcc27, hok27, hbk27⟩ := Kd.S_borrow HO_5.out [] (x25_2 : Int) (of_decide_eq_true (by first | (with_reducible assumption) | assumption)) (by first | exact hq27 | exact of_decide_eq_true (by first | (with_reducible assumption) | assumption) | (have e_ := (Kd.S_reads' HO_5.out).1; omega)); obtain ⟨ve27_0, rfl, ge27_0⟩ := hM27; have hv27 := hcc27 0 _ rfl; rw [Nat.add_zero, show ((Kd.slice 3 (Kd.int .i64))).sz = 1 from rfl, Nat.mul_one] at hv27; replace hv27 := Option.some.inj (hv27.symm.trans HX112_0.out); subst hv27; clear hcc27 hcl27; replace ge27_0 := (show Kd.R (Kd.int .i64) 3 _ _ _ _ (rd_L1 y111 x25_2) from ge27_0); have HP27 := Kd.R_putg ge27_0 (0 : Int) x25_2) | ((with_reducible refine gate_store (t := 3) (p := 40) rfl ?_); (try (rw [drewN_self w26]; generalize hq_ : World.drewN w26 _ = w26; have n0_ := Aside0.mk (Kd.S_at hq_ HO_5.out); have n1_ := Aside0.mk (Kd.R_at hq_ HL139.out); have n2_ := Aside0.mk (below_at hq_ HB.out); clear hq_ HO_5 HL139 HB; have HO_5 := n0_; have HL139 := n1_; have HB := n2_; clear n0_ n1_ n2_; (try (have hq27 : (x25_2 : Int) < (y111.length : Int) := (by have h_ : (x25_2 : Int) < ((x5_2.length : Int) : Int) := of_decide_eq_true (by first | (with_reducible assumption) | assumption); first | exact h_ | (have e_ := (Kd.S_reads' HO_5.out).1; omega) | simpa only [Ny111.out, List.length_set] using h_))); (try (obtain ⟨oki27, ce27, hcl27, hM27, hcc27, hok27, hbk27⟩ := Kd.S_borrow HO_5.out [] (x25_2 : Int) (of_decide_eq_true (by first | (with_reducible assumption) | assumption)) hq27)); (try (obtain ⟨ve27_0, rfl, ge27_0⟩ := hM27)); (try (have hv27 := hcc27 0 _ rfl)); (try (rw [Nat.add_zero, show ((Kd.slice 3 (Kd.int .i64))).sz = 1 from rfl, Nat.mul_one] at hv27)); (try (replace hv27 := Option.some.inj (hv27.symm.trans HX112_0.out))); (try (subst hv27)); (try (clear hcc27 hcl27)); (try (replace ge27_0 := (show Kd.R (Kd.int .i64) 3 _ _ _ _ (rd_L1 y111 x25_2) from ge27_0))); (try (have HP27 := Kd.R_putg ge27_0 (0 : Int) x25_2)))); refine store_event (t := 3) (p := 40) (v := ?vo_w28) (w1 := (w26.setCell ⟨go22, 0, none⟩ (.int .i64 x25_2))) ?hg ?ho ?hn ?hr ?_; (case ho => rfl); (case hg => rfl); (case hn => rfl); (case hr => first | (go_simp; done) | (go_simp; rfl)); intro w28 hw; have hg : w26.grownBy w28 (some go22) := (by rw [hw]; exact HP27.2); have hz_ : Kd.R (Kd.int .i64) 3 w28 w.heap.size oki27 (.slice (some ⟨go22, 0, none⟩) (rd_L1 y111 x25_2).length c112_0) y113 := (by rw [hw, Ny113.out]; exact HP27.1); have hp_ : Kd.S (Kd.slice 3 (Kd.int .i64)) 71 w28 w.heap.size (fun _ => True) (.slice (some ⟨go20, 0, none⟩) x5_2.length co13) y115 := (by rw [Ny115.out]; exact hbk27 hg (fun k_ e_ => by injection e_ with e_; subst e_; exact ge27_0.1 _ rfl) (Kd.M_row hz_)); have hm_ := Kd.R_mono hz_ hok27; clear HP27 hbk27; have n0_ := Aside0.mk (hp_); have n1_ := Aside0.mk ((by rw [hw]; exact below_set (HB.out) GB22.out : Below w.heap.size w w28)); have n2_ := Aside0.mk (hm_); have n3_ := Aside0.mk ((Kd.R_reads' hm_).2.1); clear HO_5; clear HB; clear HL112_0; have HO_5 := n0_; have HB := n1_; have HL139 := n2_; have HC114 := n3_; clear n0_ n1_ n2_ n3_; clear hg hw hp_ hz_ hm_ hok27)); try go_wp2_with (first | ((with_reducible refine gate_dst (N := 33) rfl ?_); refine Kd.R_make (Kd.int .i64) _ 3 rfl (N := 33) rfl 71 _ _ rfl ji15 rfl rfl Try.underlying71 (.int .i64 0) 8 info3 rfl (by decide) (by omega) 0 (ok := fun _ => True) (okp := fun _ => True) rfl (fun _ hk => hk) trivial (of_decide_eq_true (by first | (with_reducible assumption) | assumption)) (Nat.le_trans (Nat.mul_le_mul_right _ (of_decide_eq_true (by first | (with_reducible assumption) | assumption) : ji15.toNat ≤ 35184372088832)) (by omega)) (Below.refl _ _) (Nat.le_refl _) ?_; intro v109 w23 ho24 hb hg_ hnew_; clear hg_ hnew_; (first | rw [← Ny108.out] at ho24 | (simp only [Int.reduceToNat] at ho24; rw [← Ny108.out] at ho24)); have n0_ := Aside0.mk (Kd.S_elder' (by (with_reducible repeat (first | apply Kd.S_alloc | apply Kd.S_drewN | apply Kd.S_drew)); exact HO_5.out) (Kd.R_base ho24) hb); have n1_ := Aside0.mk (Kd.R_lower ho24 (below_size (by repeat (first | (with_reducible first | exact HB.out | apply below_alloc | apply pw_below_drewN | apply below_drew1) | exact HB.out)))); have n2_ := Aside0.mk (below_step (by repeat (first | (with_reducible first | exact HB.out | apply below_alloc | apply pw_below_drewN | apply below_drew1) | exact HB.out)) hb); clear HO_5; clear HB; have HO_5 := n0_; have HO110 := n1_; have HB := n2_; clear n0_ n1_ n2_; clear hb ho24; have p20 : 0 ≤ (x25_2 : Int) := of_decide_eq_true (by first | (with_reducible assumption) | assumption); have q20 : (x25_2 : Int) < ((x5_2.length : Int) : Int) := of_decide_eq_true (by first | (with_reducible assumption) | assumption); obtain ⟨go20, co20, eo20, gb20, gl20, cl20, HG20⟩ := Kd.S_form HO_5.out (by omega); (first | cases eo20 | (injection eo20 with ea_ en_ ec_; (first | subst ea_ | (injection ea_ with ea_; subst ea_)); subst ec_; clear en_)); have GB20 := Aside0.mk gb20; have GG20 := Aside0.mk HG20; clear gb20 gl20 HG20; obtain ⟨_, ce20, hcl20, hM20, hcc20, hfr20, _, _⟩ := Kd.S_elem HO_5.out [] (x25_2 : Int) p20 q20; obtain ⟨ve20_0, rfl, ge20_0⟩ := hM20; have hx20_0 := hcc20 0 _ rfl; have hf20_0 := hfr20 0; (try simp only [show ((Kd.slice 3 (Kd.int .i64))).sz = 1 from rfl, Nat.mul_one, Nat.add_zero] at hx20_0); (try simp only [show ((Kd.slice 3 (Kd.int .i64))).sz = 1 from rfl, Nat.mul_one, Nat.add_zero] at hf20_0); clear hcl20 hcc20 hfr20; (try clear hM20); replace p20 := eq_true p20; replace q20 := eq_true q20; have n_ := Aside0.mk (Kd.S_mono (ok' := (fun k_ => some k_ ≠ (v109 : Value).ownBlock)) HO_5.out (fun k_ hk => hk.2)); clear HO_5; have HO_5 := n_; clear n_; have HX25 := Aside0.mk (show Kd.S (Kd.slice 3 (Kd.int .i64)) 71 w23 w.heap.size (fun k_ => ((fun _ => True)) k_ ∧ ¬ ((fun k_ => some k_ = (v109 : Value).ownBlock)) k_) (.slice (some ⟨go20, 0, none⟩) x5_2.length co13) x5_2 from (by (with_reducible repeat (first | apply Kd.S_alloc | apply Kd.S_drewN | apply Kd.S_drew)); exact Kd.S_mono HO_5.out (fun k_ hk => ⟨trivial, fun e_ => hk e_⟩))); obtain ⟨oki25, ce25, hcl25, hM25, hcc25, hfr25, hoki25, hH25⟩ := Kd.S_elem HX25.out [] (x25_2 : Int) (of_decide_eq_true (by first | (with_reducible assumption) | assumption)) (by have h_ : (x25_2 : Int) < ((x5_2.length : Int) : Int) := of_decide_eq_true (by first | (with_reducible assumption) | assumption); first | exact h_ | (have e_ := (Kd.S_reads' HO_5.out).1; omega) | simpa using h_); obtain ⟨ve25_0, rfl, ge25_0⟩ := hM25; have HP25 := Kd.S_seg hH25 (of_decide_eq_true (by first | (with_reducible assumption) | assumption)) (by have h_ : (x25_2 : Int) < ((x5_2.length : Int) : Int) := of_decide_eq_true (by first | (with_reducible assumption) | assumption); first | exact h_ | (have e_ := (Kd.S_reads' HO_5.out).1; omega) | simpa using h_) (seg := [v109]) (j := 0) (show 1 ≤ 1 from by decide) (x' := y108) (Kd.M_row (Kd.R_mono (Kd.R_tight rfl (Kd.R_mono (ok' := fun k_ => ((fun _ => True)) k_ ∧ k_ ≠ go20) (Kd.R_apart' (HO110.out) (Kd.S_typed HO_5.out) (by decide)) (fun k_ hk => ⟨trivial, fun e_ => (hk.2) (by rw [e_]; rfl)⟩))) (fun _ h_ => Or.inr (h_)))) (fun _ hk => hk) (fun k_ hk_ => ((Kd.R_mono (ok' := fun k_ => ((fun _ => True)) k_ ∧ k_ ≠ go20) (Kd.R_apart' (HO110.out) (Kd.S_typed HO_5.out) (by decide)) (fun k_ hk => ⟨trivial, fun e_ => (hk.2) (by rw [e_]; rfl)⟩))).1 k_ hk_.symm); have hx25_0 := hcc25 0 _ rfl; (try simp only [show ((Kd.slice 3 (Kd.int .i64))).sz = 1 from rfl, Nat.mul_one, Nat.add_zero] at hx25_0); have hf25_0 := hfr25 0; (try simp only [show ((Kd.slice 3 (Kd.int .i64))).sz = 1 from rfl, Nat.mul_one, Nat.add_zero] at hf25_0); clear hcl25 hcc25 hfr25 hoki25 hH25; (try clear hM25); (try simp only [show ((Kd.slice 3 (Kd.int .i64))).sz = 1 from rfl, Nat.mul_one, Nat.add_zero] at HP25)) | ((with_reducible refine gate_store (t := 71) (p := 34) rfl ?_); (try (rw [drewN_self w23]; generalize hq_ : World.drewN w23 _ = w23; have n0_ := Aside0.mk (Kd.S_at hq_ HO_5.out); have n1_ := Aside0.mk (below_at hq_ HB.out); clear hq_ HO_5 HB; have HO_5 := n0_; have HB := n1_; clear n0_ n1_; (try (have n_ := Aside0.mk (Kd.S_mono (ok' := (fun k_ => some k_ ≠ (v109 : Value).ownBlock)) HO_5.out (fun k_ hk => hk.2)); clear HO_5; have HO_5 := n_; clear n_)); (try (have HX25 := Aside0.mk (show Kd.S (Kd.slice 3 (Kd.int .i64)) 71 w23 w.heap.size (fun k_ => ((fun _ => True)) k_ ∧ ¬ ((fun k_ => some k_ = (v109 : Value).ownBlock)) k_) (.slice (some ⟨go20, 0, none⟩) x5_2.length co13) x5_2 from (by (with_reducible repeat (first | apply Kd.S_alloc | apply Kd.S_drewN | apply Kd.S_drew)); exact Kd.S_mono HO_5.out (fun k_ hk => ⟨trivial, fun e_ => hk e_⟩))))); (try (obtain ⟨oki25, ce25, hcl25, hM25, hcc25, hfr25, hoki25, hH25⟩ := Kd.S_elem HX25.out [] (x25_2 : Int) (of_decide_eq_true (by first | (with_reducible assumption) | assumption)) (by have h_ : (x25_2 : Int) < ((x5_2.length : Int) : Int) := of_decide_eq_true (by first | (with_reducible assumption) | assumption); first | exact h_ | (have e_ := (Kd.S_reads' HO_5.out).1; omega) | simpa using h_))); (try (obtain ⟨ve25_0, rfl, ge25_0⟩ := hM25)); (try (have HP25 := Kd.S_seg hH25 (of_decide_eq_true (by first | (with_reducible assumption) | assumption)) (by have h_ : (x25_2 : Int) < ((x5_2.length : Int) : Int) := of_decide_eq_true (by first | (with_reducible assumption) | assumption); first | exact h_ | (have e_ := (Kd.S_reads' HO_5.out).1; omega) | simpa using h_) (seg := [v109]) (j := 0) (show 1 ≤ 1 from by decide) (x' := y108) (Kd.M_row (Kd.R_mono (Kd.R_tight rfl (Kd.R_mono (ok' := fun k_ => ((fun _ => True)) k_ ∧ k_ ≠ go20) (Kd.R_apart' (HO110.out) (Kd.S_typed HO_5.out) (by decide)) (fun k_ hk => ⟨trivial, fun e_ => (hk.2) (by rw [e_]; rfl)⟩))) (fun _ h_ => Or.inr (h_)))) (fun _ hk => hk) (fun k_ hk_ => ((Kd.R_mono (ok' := fun k_ => ((fun _ => True)) k_ ∧ k_ ≠ go20) (Kd.R_apart' (HO110.out) (Kd.S_typed HO_5.out) (by decide)) (fun k_ hk => ⟨trivial, fun e_ => (hk.2) (by rw [e_]; rfl)⟩))).1 k_ hk_.symm))); (try (have hx25_0 := hcc25 0 _ rfl)); (try (try simp only [show ((Kd.slice 3 (Kd.int .i64))).sz = 1 from rfl, Nat.mul_one, Nat.add_zero] at hx25_0)); (try (have hf25_0 := hfr25 0)); (try (try simp only [show ((Kd.slice 3 (Kd.int .i64))).sz = 1 from rfl, Nat.mul_one, Nat.add_zero] at hf25_0)); (try (clear hcl25 hcc25 hfr25 hoki25 hH25; (try clear hM25))); (try (try simp only [show ((Kd.slice 3 (Kd.int .i64))).sz = 1 from rfl, Nat.mul_one, Nat.add_zero] at HP25)))); have hcs_ := (by obtain ⟨A_, c_, e_⟩ := Kd.R_slice HO110.out; rw [e_]; rfl : Value.cells v109 = #[v109]); unfold Value.cells at hcs_; have hst_ := (by obtain ⟨A_, c_, e_⟩ := Kd.R_slice HO110.out; intro a_ w_ m_; rw [e_]; exact run_store_slice _ _ _ _ _ _ _ : ∀ (a_ : Addr) (w_ : World) (m_ : Mode), (store a_ v109 m_).run Try.prog w_ = stored Try.prog w_ a_ v109 m_); refine store_event (t := 71) (p := 34) (v := ?vo_w26) (w1 := (w23.setCell ⟨go20, (x25_2 : Int).toNat, none⟩ (v109))) ?hg ?ho ?hn ?hr ?_; (case ho => rfl); (case hg => rfl); (case hn => rfl); (case hr => first | (go_simp; done) | (go_simp; rfl)); intro w26 hw; have hg : w23.grownBy w26 (some go20) := (by rw [hw]; exact HP25.2); have hp_ : Kd.S (Kd.slice 3 (Kd.int .i64)) 71 w26 w.heap.size (fun _ => True) (.slice (some ⟨go20, 0, none⟩) x5_2.length co13) y111 := (by rw [hw, Ny111.out]; exact HP25.1); clear HP25; have n0_ := Aside0.mk (hp_); have n1_ := Aside0.mk ((by rw [hw]; exact below_set (HB.out) GB20.out : Below w.heap.size w w26)); clear HO_5; clear HB; clear HO110; have HO_5 := n0_; have HB := n1_; clear n0_ n1_; clear hg hw hp_; have p112 : 0 ≤ (x25_2 : Int) := of_decide_eq_true (by first | (with_reducible assumption) | assumption); have q112 : x25_2 < (y111.length : Int) := (by have h_ : (x25_2 : Int) < ((x5_2.length : Int) : Int) := of_decide_eq_true (by first | (with_reducible assumption) | assumption); first | (have e_ := (Kd.S_reads' HO_5.out).1; omega) | simpa only [Ny111.out, List.length_set] using h_); have ql112 : ((x25_2 : Int) < ((x5_2.length : Int) : Int)) = True := eq_true (of_decide_eq_true (by first | (with_reducible assumption) | assumption)); obtain ⟨ad112, A112_0, c112_0, e112, hx112_0, hl112_0, hi112_0⟩ := at_L1 (Kd.S_reads' HO_5.out).2.2 x25_2 p112 q112; obtain rfl : (⟨go20, 0, none⟩ : Addr) = ad112 := (by injection e112); obtain ⟨ce112, hce112, hMe112, hcc112⟩ := Kd.S_get HO_5.out [] x25_2 p112 (by first | exact q112 | exact of_decide_eq_true (by first | (with_reducible assumption) | assumption) | (have e_ := (Kd.S_reads' HO_5.out).1; omega)); obtain ⟨ve112_0, rfl, ge112_0⟩ := hMe112; have hv112_0 := hcc112 0 _ rfl; rw [Nat.add_zero, show ((Kd.slice 3 (Kd.int .i64))).sz = 1 from rfl, Nat.mul_one] at hv112_0; replace hv112_0 := Option.some.inj (hv112_0.symm.trans hx112_0); rw [hv112_0] at ge112_0; have HL112_0 := Aside0.mk (show Kd.R (Kd.int .i64) 3 _ _ _ _ (rd_L1 y111 x25_2) from ge112_0); clear hv112_0 ge112_0; have HX112_0 := Aside0.mk hx112_0; clear hcc112 hce112; (first | simp only [add_plain] at hx112_0 | simp only [add_at] at hx112_0 | simp only [Addr.add, Nat.zero_add] at hx112_0 | skip); have HR112_0 := Aside0.mk hi112_0; have HC112_0 := Aside0.mk hl112_0; clear hi112_0 hl112_0; replace p112 := eq_true p112; replace q112 := eq_true q112; have p22 : 0 ≤ (0 : Int) := (by omega); have q22 : (0 : Int) < (((rd_L1 y111 x25_2).length : Int) : Int) := of_decide_eq_true (by first | (with_reducible assumption) | assumption); have qi22 : (0 < (rd_L1 y111 x25_2).length) = True := eq_true (by omega); obtain ⟨go22, co22, eo22, gb22, gl22, cl22, HG22⟩ := Kd.R_form HL112_0.out (by omega); (first | cases eo22 | (injection eo22 with ea_ en_ ec_; (first | subst ea_ | (injection ea_ with ea_; subst ea_)); subst ec_; clear en_)); have GB22 := Aside0.mk gb22; have GG22 := Aside0.mk HG22; clear gb22 gl22 HG22; obtain ⟨hx22_0, hf22_0⟩ := Kd.R_celln 0 HL112_0.out (0 : Int) p22 q22; (try rw [show ((0 : Int)).toNat = 0 from rfl] at hx22_0); (try simp only [Nat.reduceMul, Nat.zero_mul, Nat.zero_add, Nat.reduceAdd] at hx22_0); (try rw [show ((0 : Int)).toNat = 0 from rfl] at hf22_0); (try simp only [Nat.reduceMul, Nat.zero_mul, Nat.zero_add, Nat.reduceAdd] at hf22_0); replace p22 := eq_true p22; replace q22 := eq_true q22; have hq27 : (x25_2 : Int) < (y111.length : Int) := (by have h_ : (x25_2 : Int) < ((x5_2.length : Int) : Int) := of_decide_eq_true (by first | (with_reducible assumption) | assumption); first | exact h_ | (have e_ := (Kd.S_reads' HO_5.out).1; omega) | simpa only [Ny111.out, List.length_set] using h_); obtain ⟨oki27, ce27, hcl27, hM27, hcc27, hok27, hbk27⟩ := Kd.S_borrow HO_5.out [] (x25_2 : Int) (of_decide_eq_true (by first | (with_reducible assumption) | assumption)) (by first | exact hq27 | exact of_decide_eq_true (by first | (with_reducible assumption) | assumption) | (have e_ := (Kd.S_reads' HO_5.out).1; omega)); obtain ⟨ve27_0, rfl, ge27_0⟩ := hM27; have hv27 := hcc27 0 _ rfl; rw [Nat.add_zero, show ((Kd.slice 3 (Kd.int .i64))).sz = 1 from rfl, Nat.mul_one] at hv27; replace hv27 := Option.some.inj (hv27.symm.trans HX112_0.out); subst hv27; clear hcc27 hcl27; replace ge27_0 := (show Kd.R (Kd.int .i64) 3 _ _ _ _ (rd_L1 y111 x25_2) from ge27_0); have HP27 := Kd.R_putg ge27_0 (0 : Int) x25_2) | ((with_reducible refine gate_store (t := 3) (p := 40) rfl ?_); (try (rw [drewN_self w26]; generalize hq_ : World.drewN w26 _ = w26; have n0_ := Aside0.mk (Kd.S_at hq_ HO_5.out); have n1_ := Aside0.mk (Kd.R_at hq_ HL139.out); have n2_ := Aside0.mk (below_at hq_ HB.out); clear hq_ HO_5 HL139 HB; have HO_5 := n0_; have HL139 := n1_; have HB := n2_; clear n0_ n1_ n2_; (try (have hq27 : (x25_2 : Int) < (y111.length : Int) := (by have h_ : (x25_2 : Int) < ((x5_2.length : Int) : Int) := of_decide_eq_true (by first | (with_reducible assumption) | assumption); first | exact h_ | (have e_ := (Kd.S_reads' HO_5.out).1; omega) | simpa only [Ny111.out, List.length_set] using h_))); (try (obtain ⟨oki27, ce27, hcl27, hM27, hcc27, hok27, hbk27⟩ := Kd.S_borrow HO_5.out [] (x25_2 : Int) (of_decide_eq_true (by first | (with_reducible assumption) | assumption)) hq27)); (try (obtain ⟨ve27_0, rfl, ge27_0⟩ := hM27)); (try (have hv27 := hcc27 0 _ rfl)); (try (rw [Nat.add_zero, show ((Kd.slice 3 (Kd.int .i64))).sz = 1 from rfl, Nat.mul_one] at hv27)); (try (replace hv27 := Option.some.inj (hv27.symm.trans HX112_0.out))); (try (subst hv27)); (try (clear hcc27 hcl27)); (try (replace ge27_0 := (show Kd.R (Kd.int .i64) 3 _ _ _ _ (rd_L1 y111 x25_2) from ge27_0))); (try (have HP27 := Kd.R_putg ge27_0 (0 : Int) x25_2)))); refine store_event (t := 3) (p := 40) (v := ?vo_w28) (w1 := (w26.setCell ⟨go22, 0, none⟩ (.int .i64 x25_2))) ?hg ?ho ?hn ?hr ?_; (case ho => rfl); (case hg => rfl); (case hn => rfl); (case hr => first | (go_simp; done) | (go_simp; rfl)); intro w28 hw; have hg : w26.grownBy w28 (some go22) := (by rw [hw]; exact HP27.2); have hz_ : Kd.R (Kd.int .i64) 3 w28 w.heap.size oki27 (.slice (some ⟨go22, 0, none⟩) (rd_L1 y111 x25_2).length c112_0) y113 := (by rw [hw, Ny113.out]; exact HP27.1); have hp_ : Kd.S (Kd.slice 3 (Kd.int .i64)) 71 w28 w.heap.size (fun _ => True) (.slice (some ⟨go20, 0, none⟩) x5_2.length co13) y115 := (by rw [Ny115.out]; exact hbk27 hg (fun k_ e_ => by injection e_ with e_; subst e_; exact ge27_0.1 _ rfl) (Kd.M_row hz_)); have hm_ := Kd.R_mono hz_ hok27; clear HP27 hbk27; have n0_ := Aside0.mk (hp_); have n1_ := Aside0.mk ((by rw [hw]; exact below_set (HB.out) GB22.out : Below w.heap.size w w28)); have n2_ := Aside0.mk (hm_); have n3_ := Aside0.mk ((Kd.R_reads' hm_).2.1); clear HO_5; clear HB; clear HL112_0; have HO_5 := n0_; have HB := n1_; have HL139 := n2_; have HC114 := n3_; clear n0_ n1_ n2_ n3_; clear hg hw hp_ hz_ hm_ hok27)))
                            (try simp only [← hl5_2])
                            go_roundg k2
                            case measure => have := HJ2.out; have := HK2.out; omega
                            case rel => exact ⟨(y115), (wrap64 (x25_2 + 1)), (by first | rfl | (simp; done) | (simp [*]; done)), H', ⟨by have := HJ2.out; have := HK2.out; omega⟩, ⟨by (try simp only [hl5_2]); (with_reducible repeat (first | apply Kd.S_alloc | apply Kd.S_drewN | apply Kd.S_drew)); exact HO_5.out⟩, ⟨by repeat (first | (with_reducible first | exact HB.out | apply below_alloc | apply pw_below_drewN | apply below_drew1) | exact HB.out)⟩⟩
                          · rw [if_neg c21] at H
                            exact absurd H (by simp)
                        · rw [if_neg c19] at H
                          exact absurd H (by simp)
                      · rw [if_neg c18] at H
                        exact absurd H (by simp)
                    · rw [if_neg c17] at H
                      exact absurd H (by simp)
                  · rw [if_neg c16] at H
                    exact absurd H (by simp)
                · rw [if_neg c14] at H
                  have c14b0 : decide (x25_2 < (y105.length : Int)) = false := decide_eq_false c14
                  try have c14b8 := c14b0
                  try simp only [hl5_2] at c14b8
                  clear c14
                  by_cases c29 : 0 < (x5_2.length : Int)
                  · rw [if_pos c29] at H
                    have c29b0 : decide (0 < (x5_2.length : Int)) = true := decide_eq_true c29
                    try have c29b8 := c29b0
                    try simp only [hl5_2] at c29b8
                    have c29b1 : decide (0 < x5_2.length) = true := decide_eq_true (by omega)
                    clear c29
                    have H' := Aside0.mk H
                    clear H
                    have p116 : 0 ≤ (0 : Int) := (by omega)
                    have q116 : 0 < (x5_2.length : Int) := of_decide_eq_true (by first | (with_reducible assumption) | assumption)
                    obtain ⟨ad116, A116_0, c116_0, e116, hx116_0, hl116_0, hi116_0⟩ := at_L1 (Kd.S_reads' HO_5.out).2.2 0 p116 q116
                    cases e116
                    obtain ⟨ce116, hce116, hMe116, hcc116⟩ := Kd.S_get HO_5.out [] 0 p116 (by first | exact q116 | exact of_decide_eq_true (by first | (with_reducible assumption) | assumption) | (have e_ := (Kd.S_reads' HO_5.out).1; omega))
                    obtain ⟨ve116_0, rfl, ge116_0⟩ := hMe116
                    have hv116_0 := hcc116 0 _ rfl
                    rw [Nat.add_zero, show ((Kd.slice 3 (Kd.int .i64))).sz = 1 from rfl, Nat.mul_one] at hv116_0
                    replace hv116_0 := Option.some.inj (hv116_0.symm.trans hx116_0)
                    rw [hv116_0] at ge116_0
                    have HL116_0 := Aside0.mk (show Kd.R (Kd.int .i64) 3 _ _ _ _ (rd_L1 x5_2 0) from ge116_0)
                    clear hv116_0 ge116_0
                    have HX116_0 := Aside0.mk hx116_0
                    clear hcc116 hce116
                    have qi116 : (0 < x5_2.length) = True := eq_true (by omega)
                    (try rw [show ((0 : Int)).toNat = 0 from rfl] at hx116_0)
                    (try rw [Addr.add_zero'] at hx116_0)
                    have HR116_0 := Aside0.mk hi116_0
                    have HC116_0 := Aside0.mk hl116_0
                    clear hi116_0 hl116_0
                    replace p116 := eq_true p116
                    replace q116 := eq_true q116
                    go_wp2
                    repeat (go_quiet (fail); try go_wp2)
                    go_loopg [46] k2 (fun kq v46 w' => ∃ (x5_3 : List (List Int)) (x46_3 : Int), v46 = .int .i64 x46_3 ∧ Aside0 (impl_Far.l1 kq a0 a1 x5_3 ((rd_L1 x5_2 0).length : Int) x46_3 = some r) ∧ Aside0 (kq ≤ k2) ∧ Aside0 (Kd.S (Kd.slice 3 (Kd.int .i64)) 71 w' w.heap.size (fun _ => True) (.slice (some ad116) x5_2.length co13) x5_3) ∧ Aside0 (Below w.heap.size w w'))
                    case atStart => exact ⟨(x5_2), (0), (by first | rfl | (simp; done) | (simp [*]; done)), H', ⟨Nat.le_refl _⟩, ⟨by (try simp only [hl5_2]); (with_reducible repeat (first | apply Kd.S_alloc | apply Kd.S_drewN | apply Kd.S_drew)); exact HO_5.out⟩, ⟨by repeat (first | (with_reducible first | exact HB.out | apply below_alloc | apply pw_below_drewN | apply below_drew1) | exact HB.out)⟩⟩
                    case round =>
                      clear H'
                      try clear c1
                      try clear p1
                      try clear q1
                      try clear hx1
                      try clear qi1
                      try clear c2
                      try clear p2
                      try clear q2
                      try clear hx2
                      try clear qi2
                      try clear hf2
                      try clear c3
                      try clear c5
                      try clear p6
                      try clear c7
                      try clear c9
                      try clear c9b0
                      try clear c9b1
                      try clear c10
                      try clear c10b0
                      try clear c10b1
                      try clear c11
                      try clear p11
                      try clear q11
                      try clear hx11
                      try clear qi11
                      try clear c14
                      try clear c14b0
                      try clear c16
                      try clear c16b0
                      try clear c16b1
                      try clear c17
                      try clear c17b0
                      try clear c17b1
                      try clear c18
                      try clear c18b0
                      try clear c19
                      try clear c19b0
                      try clear c20
                      try clear p20
                      try clear q20
                      try clear hx20
                      try clear hf20
                      try clear c21
                      try clear c21b0
                      try clear c21b1
                      try clear p22
                      try clear q22
                      try clear hx22
                      try clear qi22
                      try clear hf22
                      try clear c25
                      try clear hx25
                      try clear hf25
                      try clear c27
                      try clear q27
                      try clear c29
                      try clear c29b0
                      try clear c29b1
                      try clear hx112_0
                      try clear hx116_0
                      try clear hx20_0
                      try clear hx22_0
                      try clear hx25_0
                      try clear p112
                      try clear p116
                      try clear p2
                      try clear p20
                      try clear p22
                      try clear p6
                      try clear q112
                      try clear q116
                      try clear q20
                      try clear q22
                      obtain ⟨x5_3, x46_3, rfl, HA, HK3, HO_5, HB⟩ := hrel
                      have hl5_3 := (Kd.S_reads' HO_5.out).1
                      rw [hl5_3] at HO_5
                      (try simp only [hl5_3])
                      cases gk with
                      | zero => exact absurd HA.out (by simp [impl_Far.l1])
                      | succ k3 =>
                        have H := HA.out
                        clear HA
                        simp only [impl_Far.l1] at H
                        by_cases c30 : x46_3 < ((rd_L1 x5_2 0).length : Int)
                        · rw [if_pos c30] at H
                          have c30b0 : decide (x46_3 < ((rd_L1 x5_2 0).length : Int)) = true := decide_eq_true c30
                          try have c30b8 := c30b0
                          try simp only [hl5_2] at c30b8
                          try simp only [hl5_3] at c30b8
                          clear c30
                          by_cases c31 : 0 < (x5_3.length : Int)
                          · rw [if_pos c31] at H
                            have c31b0 : decide (0 < (x5_3.length : Int)) = true := decide_eq_true c31
                            try have c31b8 := c31b0
                            try simp only [hl5_2] at c31b8
                            try simp only [hl5_3] at c31b8
                            have c31b1 : decide (0 < x5_3.length) = true := decide_eq_true (by omega)
                            clear c31
                            by_cases c32 : 0 ≤ x46_3
                            · rw [if_pos c32] at H
                              have c32b0 : decide (0 ≤ x46_3) = true := decide_eq_true c32
                              clear c32
                              by_cases c33 : x46_3 < ((rd_L1 x5_3 0).length : Int)
                              · rw [if_pos c33] at H
                                have c33b0 : decide (x46_3 < ((rd_L1 x5_3 0).length : Int)) = true := decide_eq_true c33
                                try have c33b8 := c33b0
                                try simp only [hl5_2] at c33b8
                                try simp only [hl5_3] at c33b8
                                clear c33
                                obtain ⟨y118, hy118⟩ : ∃ y_ : List Int, y_ = ((rd_L1 x5_3 0).set (x46_3 : Int).toNat x46_3) := ⟨_, rfl⟩
                                replace H : (impl_Far.l1 k3 a0 a1 (x5_3.set (0 : Int).toNat y118) ((rd_L1 x5_2 0).length : Int) (wrap64 (x46_3 + 1))) = some r := by first | (rw [hy118]; with_reducible exact H) | (have H2_ := (Option.bind_some _ _).symm.trans H; rw [hy118]; with_reducible exact H2_) | (have H2_ := (Option.bind_some _ _).symm.trans H; with_reducible exact H2_) | with_reducible exact H | (rw [hy118]; exact H) | exact H
                                have Ny118 := Aside0.mk hy118
                                clear hy118
                                obtain ⟨y120, hy120⟩ : ∃ y_ : List (List Int), y_ = (x5_3.set (0 : Int).toNat y118) := ⟨_, rfl⟩
                                replace H : (impl_Far.l1 k3 a0 a1 y120 ((rd_L1 x5_2 0).length : Int) (wrap64 (x46_3 + 1))) = some r := by first | (rw [hy120]; with_reducible exact H) | (have H2_ := (Option.bind_some _ _).symm.trans H; rw [hy120]; with_reducible exact H2_) | (have H2_ := (Option.bind_some _ _).symm.trans H; with_reducible exact H2_) | with_reducible exact H | (rw [hy120]; exact H) | exact H
                                have Ny120 := Aside0.mk hy120
                                clear hy120
                                have H' := Aside0.mk H
                                clear H
                                have p117 : 0 ≤ (0 : Int) := (by omega)
                                have q117 : 0 < (x5_3.length : Int) := of_decide_eq_true (by first | (with_reducible assumption) | assumption)
                                obtain ⟨ad117, A117_0, c117_0, e117, hx117_0, hl117_0, hi117_0⟩ := at_L1 (Kd.S_reads' HO_5.out).2.2 0 p117 q117
                                obtain rfl : ad116 = ad117 := (by injection e117)
                                obtain ⟨ce117, hce117, hMe117, hcc117⟩ := Kd.S_get HO_5.out [] 0 p117 (by first | exact q117 | exact of_decide_eq_true (by first | (with_reducible assumption) | assumption) | (have e_ := (Kd.S_reads' HO_5.out).1; omega))
                                obtain ⟨ve117_0, rfl, ge117_0⟩ := hMe117
                                have hv117_0 := hcc117 0 _ rfl
                                rw [Nat.add_zero, show ((Kd.slice 3 (Kd.int .i64))).sz = 1 from rfl, Nat.mul_one] at hv117_0
                                replace hv117_0 := Option.some.inj (hv117_0.symm.trans hx117_0)
                                rw [hv117_0] at ge117_0
                                have HL117_0 := Aside0.mk (show Kd.R (Kd.int .i64) 3 _ _ _ _ (rd_L1 x5_3 0) from ge117_0)
                                clear hv117_0 ge117_0
                                have HX117_0 := Aside0.mk hx117_0
                                clear hcc117 hce117
                                have qi117 : (0 < x5_3.length) = True := eq_true (by omega)
                                (try rw [show ((0 : Int)).toNat = 0 from rfl] at hx117_0)
                                (try rw [Addr.add_zero'] at hx117_0)
                                have HR117_0 := Aside0.mk hi117_0
                                have HC117_0 := Aside0.mk hl117_0
                                clear hi117_0 hl117_0
                                replace p117 := eq_true p117
                                replace q117 := eq_true q117
                                have p34 : 0 ≤ (x46_3 : Int) := of_decide_eq_true (by first | (with_reducible assumption) | assumption)
                                have q34 : (x46_3 : Int) < (((rd_L1 x5_3 0).length : Int) : Int) := of_decide_eq_true (by first | (with_reducible assumption) | assumption)
                                obtain ⟨go34, co34, eo34, gb34, gl34, cl34, HG34⟩ := Kd.R_form HL117_0.out (by omega)
                                (first | cases eo34 | (injection eo34 with ea_ en_ ec_; (first | subst ea_ | (injection ea_ with ea_; subst ea_)); subst ec_; clear en_))
                                have GB34 := Aside0.mk gb34
                                have GG34 := Aside0.mk HG34
                                clear gb34 gl34 HG34
                                obtain ⟨hx34_0, hf34_0⟩ := Kd.R_celln 0 HL117_0.out (x46_3 : Int) p34 q34
                                replace p34 := eq_true p34
                                replace q34 := eq_true q34
                                have hq35 : (0 : Int) < (x5_3.length : Int) := (by have h_ : (0 : Int) < ((x5_3.length : Int) : Int) := of_decide_eq_true (by first | (with_reducible assumption) | assumption); first | exact h_ | (have e_ := (Kd.S_reads' HO_5.out).1; omega) | simpa only [List.length_set, List.length_set] using h_)
                                obtain ⟨oki35, ce35, hcl35, hM35, hcc35, hok35, hbk35⟩ := Kd.S_borrow HO_5.out [] (0 : Int) (by omega) hq35
                                obtain ⟨ve35_0, rfl, ge35_0⟩ := hM35
                                have hv35 := hcc35 0 _ rfl
                                rw [Nat.add_zero, show ((Kd.slice 3 (Kd.int .i64))).sz = 1 from rfl, Nat.mul_one] at hv35
                                replace hv35 := Option.some.inj (hv35.symm.trans HX117_0.out)
                                subst hv35
                                clear hcc35 hcl35
                                replace ge35_0 := (show Kd.R (Kd.int .i64) 3 _ _ _ _ (rd_L1 x5_3 0) from ge35_0)
                                have HP35 := Kd.R_putg ge35_0 (x46_3 : Int) x46_3
                                go_wp2_with (first | ((with_reducible refine gate_store (t := 3) (p := 54) rfl ?_); (try (rw [drewN_self wr]; generalize hq_ : World.drewN wr _ = wr; have n0_ := Aside0.mk (Kd.S_at hq_ HO_5.out); have n1_ := Aside0.mk (Kd.R_at hq_ HL140.out); have n2_ := Aside0.mk (below_at hq_ HB.out); clear hq_ HO_5 HL140 HB; have HO_5 := n0_; have HL140 := n1_; have HB := n2_; clear n0_ n1_ n2_; (try (have hq35 : (0 : Int) < (x5_3.length : Int) := (by have h_ : (0 : Int) < ((x5_3.length : Int) : Int) := of_decide_eq_true (by first | (with_reducible assumption) | assumption); first | exact h_ | (have e_ := (Kd.S_reads' HO_5.out).1; omega) | simpa only [List.length_set, List.length_set] using h_))); (try (obtain ⟨oki35, ce35, hcl35, hM35, hcc35, hok35, hbk35⟩ := Kd.S_borrow HO_5.out [] (0 : Int) (by omega) hq35)); (try (obtain ⟨ve35_0, rfl, ge35_0⟩ := hM35)); (try (have hv35 := hcc35 0 _ rfl)); (try (rw [Nat.add_zero, show ((Kd.slice 3 (Kd.int .i64))).sz = 1 from rfl, Nat.mul_one] at hv35)); (try (replace hv35 := Option.some.inj (hv35.symm.trans HX117_0.out))); (try (subst hv35)); (try (clear hcc35 hcl35)); (try (replace ge35_0 := (show Kd.R (Kd.int .i64) 3 _ _ _ _ (rd_L1 x5_3 0) from ge35_0))); (try (have HP35 := Kd.R_putg ge35_0 (x46_3 : Int) x46_3)))); refine store_event (t := 3) (p := 54) (v := ?vo_w36) (w1 := (wr.setCell ⟨go34, (x46_3 : Int).toNat, none⟩ (.int .i64 x46_3))) ?hg ?ho ?hn ?hr ?_; (case ho => rfl); (case hg => rfl); (case hn => rfl); (case hr => first | (go_simp; done) | (go_simp; rfl)); intro w36 hw; have hg : wr.grownBy w36 (some go34) := (by rw [hw]; exact HP35.2); have hz_ : Kd.R (Kd.int .i64) 3 w36 w.heap.size oki35 (.slice (some ⟨go34, 0, none⟩) (rd_L1 x5_3 0).length c117_0) y118 := (by rw [hw, Ny118.out]; exact HP35.1); have hp_ : Kd.S (Kd.slice 3 (Kd.int .i64)) 71 w36 w.heap.size (fun _ => True) (.slice (some ad116) x5_3.length co13) y120 := (by rw [Ny120.out]; exact hbk35 hg (fun k_ e_ => by injection e_ with e_; subst e_; exact ge35_0.1 _ rfl) (Kd.M_row hz_)); have hm_ := Kd.R_mono hz_ hok35; clear HP35 hbk35; have n0_ := Aside0.mk (hp_); have n1_ := Aside0.mk ((by rw [hw]; exact below_set (HB.out) GB34.out : Below w.heap.size w w36)); have n2_ := Aside0.mk (hm_); have n3_ := Aside0.mk ((Kd.R_reads' hm_).2.1); clear HO_5; clear HB; clear HL117_0; have HO_5 := n0_; have HB := n1_; have HL140 := n2_; have HC119 := n3_; clear n0_ n1_ n2_ n3_; clear hg hw hp_ hz_ hm_ hok35))
                                repeat (go_quiet (first | ((with_reducible refine gate_store (t := 3) (p := 54) rfl ?_); (try (rw [drewN_self wr]; generalize hq_ : World.drewN wr _ = wr; have n0_ := Aside0.mk (Kd.S_at hq_ HO_5.out); have n1_ := Aside0.mk (Kd.R_at hq_ HL140.out); have n2_ := Aside0.mk (below_at hq_ HB.out); clear hq_ HO_5 HL140 HB; have HO_5 := n0_; have HL140 := n1_; have HB := n2_; clear n0_ n1_ n2_; (try (have hq35 : (0 : Int) < (x5_3.length : Int) := (by have h_ : (0 : Int) < ((x5_3.length : Int) : Int) := of_decide_eq_true (by first | (with_reducible assumption) | assumption); first | exact h_ | (have e_ := (Kd.S_reads' HO_5.out).1; omega) | simpa only [List.length_set, List.length_set] using h_))); (try (obtain ⟨oki35, ce35, hcl35, hM35, hcc35, hok35, hbk35⟩ := Kd.S_borrow HO_5.out [] (0 : Int) (by omega) hq35)); (try (obtain ⟨ve35_0, rfl, ge35_0⟩ := hM35)); (try (have hv35 := hcc35 0 _ rfl)); (try (rw [Nat.add_zero, show ((Kd.slice 3 (Kd.int .i64))).sz = 1 from rfl, Nat.mul_one] at hv35)); (try (replace hv35 := Option.some.inj (hv35.symm.trans HX117_0.out))); (try (subst hv35)); (try (clear hcc35 hcl35)); (try (replace ge35_0 := (show Kd.R (Kd.int .i64) 3 _ _ _ _ (rd_L1 x5_3 0) from ge35_0))); (try (have HP35 := Kd.R_putg ge35_0 (x46_3 : Int) x46_3)))); refine store_event (t := 3) (p := 54) (v := ?vo_w36) (w1 := (wr.setCell ⟨go34, (x46_3 : Int).toNat, none⟩ (.int .i64 x46_3))) ?hg ?ho ?hn ?hr ?_; (case ho => rfl); (case hg => rfl); (case hn => rfl); (case hr => first | (go_simp; done) | (go_simp; rfl)); intro w36 hw; have hg : wr.grownBy w36 (some go34) := (by rw [hw]; exact HP35.2); have hz_ : Kd.R (Kd.int .i64) 3 w36 w.heap.size oki35 (.slice (some ⟨go34, 0, none⟩) (rd_L1 x5_3 0).length c117_0) y118 := (by rw [hw, Ny118.out]; exact HP35.1); have hp_ : Kd.S (Kd.slice 3 (Kd.int .i64)) 71 w36 w.heap.size (fun _ => True) (.slice (some ad116) x5_3.length co13) y120 := (by rw [Ny120.out]; exact hbk35 hg (fun k_ e_ => by injection e_ with e_; subst e_; exact ge35_0.1 _ rfl) (Kd.M_row hz_)); have hm_ := Kd.R_mono hz_ hok35; clear HP35 hbk35; have n0_ := Aside0.mk (hp_); have n1_ := Aside0.mk ((by rw [hw]; exact below_set (HB.out) GB34.out : Below w.heap.size w w36)); have n2_ := Aside0.mk (hm_); have n3_ := Aside0.mk ((Kd.R_reads' hm_).2.1); clear HO_5; clear HB; clear HL117_0; have HO_5 := n0_; have HB := n1_; have HL140 := n2_; have HC119 := n3_; clear n0_ n1_ n2_ n3_; clear hg hw hp_ hz_ hm_ hok35)); try go_wp2_with (first | ((with_reducible refine gate_store (t := 3) (p := 54) rfl ?_); (try (rw [drewN_self wr]; generalize hq_ : World.drewN wr _ = wr; have n0_ := Aside0.mk (Kd.S_at hq_ HO_5.out); have n1_ := Aside0.mk (Kd.R_at hq_ HL140.out); have n2_ := Aside0.mk (below_at hq_ HB.out); clear hq_ HO_5 HL140 HB; have HO_5 := n0_; have HL140 := n1_; have HB := n2_; clear n0_ n1_ n2_; (try (have hq35 : (0 : Int) < (x5_3.length : Int) := (by have h_ : (0 : Int) < ((x5_3.length : Int) : Int) := of_decide_eq_true (by first | (with_reducible assumption) | assumption); first | exact h_ | (have e_ := (Kd.S_reads' HO_5.out).1; omega) | simpa only [List.length_set, List.length_set] using h_))); (try (obtain ⟨oki35, ce35, hcl35, hM35, hcc35, hok35, hbk35⟩ := Kd.S_borrow HO_5.out [] (0 : Int) (by omega) hq35)); (try (obtain ⟨ve35_0, rfl, ge35_0⟩ := hM35)); (try (have hv35 := hcc35 0 _ rfl)); (try (rw [Nat.add_zero, show ((Kd.slice 3 (Kd.int .i64))).sz = 1 from rfl, Nat.mul_one] at hv35)); (try (replace hv35 := Option.some.inj (hv35.symm.trans HX117_0.out))); (try (subst hv35)); (try (clear hcc35 hcl35)); (try (replace ge35_0 := (show Kd.R (Kd.int .i64) 3 _ _ _ _ (rd_L1 x5_3 0) from ge35_0))); (try (have HP35 := Kd.R_putg ge35_0 (x46_3 : Int) x46_3)))); refine store_event (t := 3) (p := 54) (v := ?vo_w36) (w1 := (wr.setCell ⟨go34, (x46_3 : Int).toNat, none⟩ (.int .i64 x46_3))) ?hg ?ho ?hn ?hr ?_; (case ho => rfl); (case hg => rfl); (case hn => rfl); (case hr => first | (go_simp; done) | (go_simp; rfl)); intro w36 hw; have hg : wr.grownBy w36 (some go34) := (by rw [hw]; exact HP35.2); have hz_ : Kd.R (Kd.int .i64) 3 w36 w.heap.size oki35 (.slice (some ⟨go34, 0, none⟩) (rd_L1 x5_3 0).length c117_0) y118 := (by rw [hw, Ny118.out]; exact HP35.1); have hp_ : Kd.S (Kd.slice 3 (Kd.int .i64)) 71 w36 w.heap.size (fun _ => True) (.slice (some ad116) x5_3.length co13) y120 := (by rw [Ny120.out]; exact hbk35 hg (fun k_ e_ => by injection e_ with e_; subst e_; exact ge35_0.1 _ rfl) (Kd.M_row hz_)); have hm_ := Kd.R_mono hz_ hok35; clear HP35 hbk35; have n0_ := Aside0.mk (hp_); have n1_ := Aside0.mk ((by rw [hw]; exact below_set (HB.out) GB34.out : Below w.heap.size w w36)); have n2_ := Aside0.mk (hm_); have n3_ := Aside0.mk ((Kd.R_reads' hm_).2.1); clear HO_5; clear HB; clear HL117_0; have HO_5 := n0_; have HB := n1_; have HL140 := n2_; have HC119 := n3_; clear n0_ n1_ n2_ n3_; clear hg hw hp_ hz_ hm_ hok35)))
                                (try simp only [← hl5_3])
                                go_roundg k3
                                case measure => have := HJ2.out; have := HK2.out; have := HK3.out; omega
                                case rel => exact ⟨(y120), (wrap64 (x46_3 + 1)), (by first | rfl | (simp; done) | (simp [*]; done)), H', ⟨by have := HJ2.out; have := HK2.out; have := HK3.out; omega⟩, ⟨by (try simp only [hl5_2]); (try simp only [hl5_3]); (with_reducible repeat (first | apply Kd.S_alloc | apply Kd.S_drewN | apply Kd.S_drew)); exact HO_5.out⟩, ⟨by repeat (first | (with_reducible first | exact HB.out | apply below_alloc | apply pw_below_drewN | apply below_drew1) | exact HB.out)⟩⟩
                              · rw [if_neg c33] at H
                                exact absurd H (by simp)
                            · rw [if_neg c32] at H
                              exact absurd H (by simp)
                          · rw [if_neg c31] at H
                            exact absurd H (by simp)
                        · rw [if_neg c30] at H
                          have c30b0 : decide (x46_3 < ((rd_L1 x5_2 0).length : Int)) = false := decide_eq_false c30
                          try have c30b8 := c30b0
                          try simp only [hl5_2] at c30b8
                          try simp only [hl5_3] at c30b8
                          clear c30
                          have H' := Aside0.mk H
                          clear H
                          go_wp2
                          repeat (go_quiet (fail); try go_wp2)
                          go_loopg [8] k3 (fun kq v8 w' => ∃ (x5_4 : List (List Int)) (x8_4 : Int), v8 = .int .i64 x8_4 ∧ Aside0 (impl_Far.l2 kq a0 a1 x5_4 x8_4 = some r) ∧ Aside0 (kq ≤ k3) ∧ Aside0 (Kd.S (Kd.slice 3 (Kd.int .i64)) 71 w' w.heap.size (fun _ => True) (.slice (some ad116) x5_3.length co13) x5_4) ∧ Aside0 (Below w.heap.size w w'))
                          case atStart => exact ⟨(x5_3), (1), (by first | rfl | (simp; done) | (simp [*]; done)), H', ⟨Nat.le_refl _⟩, ⟨by (try simp only [hl5_2]); (try simp only [hl5_3]); (with_reducible repeat (first | apply Kd.S_alloc | apply Kd.S_drewN | apply Kd.S_drew)); exact HO_5.out⟩, ⟨by repeat (first | (with_reducible first | exact HB.out | apply below_alloc | apply pw_below_drewN | apply below_drew1) | exact HB.out)⟩⟩
                          case round =>
                            clear H'
                            try clear c1
                            try clear p1
                            try clear q1
                            try clear hx1
                            try clear qi1
                            try clear c2
                            try clear p2
                            try clear q2
                            try clear hx2
                            try clear qi2
                            try clear hf2
                            try clear c3
                            try clear p3
                            try clear q3
                            try clear hx3
                            try clear hf3
                            try clear c5
                            try clear p6
                            try clear c7
                            try clear c9
                            try clear c9b0
                            try clear c9b1
                            try clear c10
                            try clear c10b0
                            try clear c10b1
                            try clear c11
                            try clear p11
                            try clear q11
                            try clear hx11
                            try clear qi11
                            try clear c14
                            try clear c14b0
                            try clear c16
                            try clear c16b0
                            try clear c16b1
                            try clear c17
                            try clear c17b0
                            try clear c17b1
                            try clear c18
                            try clear c18b0
                            try clear c19
                            try clear c19b0
                            try clear c20
                            try clear p20
                            try clear q20
                            try clear hx20
                            try clear hf20
                            try clear c21
                            try clear c21b0
                            try clear c21b1
                            try clear p22
                            try clear q22
                            try clear hx22
                            try clear qi22
                            try clear hf22
                            try clear c25
                            try clear hx25
                            try clear hf25
                            try clear c27
                            try clear q27
                            try clear c29
                            try clear c29b0
                            try clear c29b1
                            try clear c30
                            try clear c30b0
                            try clear c31
                            try clear c31b0
                            try clear c31b1
                            try clear c32
                            try clear c32b0
                            try clear c33
                            try clear c33b0
                            try clear p34
                            try clear q34
                            try clear hx34
                            try clear hf34
                            try clear c35
                            try clear q35
                            try clear hx112_0
                            try clear hx116_0
                            try clear hx117_0
                            try clear hx20_0
                            try clear hx22_0
                            try clear hx25_0
                            try clear hx34_0
                            try clear p1
                            try clear p11
                            try clear p112
                            try clear p116
                            try clear p117
                            try clear p2
                            try clear p20
                            try clear p22
                            try clear p34
                            try clear p6
                            try clear q1
                            try clear q11
                            try clear q112
                            try clear q116
                            try clear q117
                            try clear q2
                            try clear q20
                            try clear q22
                            try clear q27
                            try clear q34
                            obtain ⟨x5_4, x8_4, rfl, HA, HK4, HO_5, HB⟩ := hrel
                            have hl5_4 := (Kd.S_reads' HO_5.out).1
                            rw [hl5_4] at HO_5
                            (try simp only [hl5_4])
                            cases gk with
                            | zero => exact absurd HA.out (by simp [impl_Far.l2])
                            | succ k4 =>
                              have H := HA.out
                              clear HA
                              simp only [impl_Far.l2] at H
                              by_cases c37 : x8_4 ≤ (a0.size : Int)
                              · rw [if_pos c37] at H
                                have c37b0 : decide (x8_4 ≤ (a0.size : Int)) = true := decide_eq_true c37
                                clear c37
                                have H' := Aside0.mk H
                                clear H
                                go_wp2
                                repeat (go_quiet (fail); try go_wp2)
                                go_loopg [9] k4 (fun kq v9 w' => ∃ (x5_5 : List (List Int)) (x9_5 : Int), v9 = .int .i64 x9_5 ∧ Aside0 (impl_Far.l3 kq a0 a1 x5_5 x8_4 x9_5 = some r) ∧ Aside0 (kq ≤ k4) ∧ Aside0 (Kd.S (Kd.slice 3 (Kd.int .i64)) 71 w' w.heap.size (fun _ => True) (.slice (some ad116) x5_4.length co13) x5_5) ∧ Aside0 (Below w.heap.size w w'))
                                case atStart => exact ⟨(x5_4), (1), (by first | rfl | (simp; done) | (simp [*]; done)), H', ⟨Nat.le_refl _⟩, ⟨by (try simp only [hl5_2]); (try simp only [hl5_3]); (try simp only [hl5_4]); (with_reducible repeat (first | apply Kd.S_alloc | apply Kd.S_drewN | apply Kd.S_drew)); exact HO_5.out⟩, ⟨by repeat (first | (with_reducible first | exact HB.out | apply below_alloc | apply pw_below_drewN | apply below_drew1) | exact HB.out)⟩⟩
                                case round =>
                                  clear H'
                                  try clear c1
                                  try clear p1
                                  try clear q1
                                  try clear hx1
                                  try clear qi1
                                  try clear c2
                                  try clear p2
                                  try clear q2
                                  try clear hx2
                                  try clear qi2
                                  try clear hf2
                                  try clear c3
                                  try clear p3
                                  try clear q3
                                  try clear hx3
                                  try clear hf3
                                  try clear c5
                                  try clear p6
                                  try clear c7
                                  try clear c9
                                  try clear c9b0
                                  try clear c9b1
                                  try clear c10
                                  try clear c10b0
                                  try clear c10b1
                                  try clear c11
                                  try clear p11
                                  try clear q11
                                  try clear hx11
                                  try clear qi11
                                  try clear c14
                                  try clear c14b0
                                  try clear c16
                                  try clear c16b0
                                  try clear c16b1
                                  try clear c17
                                  try clear c17b0
                                  try clear c17b1
                                  try clear c18
                                  try clear c18b0
                                  try clear c19
                                  try clear c19b0
                                  try clear c20
                                  try clear p20
                                  try clear q20
                                  try clear hx20
                                  try clear hf20
                                  try clear c21
                                  try clear c21b0
                                  try clear c21b1
                                  try clear p22
                                  try clear q22
                                  try clear hx22
                                  try clear qi22
                                  try clear hf22
                                  try clear c25
                                  try clear hx25
                                  try clear hf25
                                  try clear c27
                                  try clear q27
                                  try clear c29
                                  try clear c29b0
                                  try clear c29b1
                                  try clear c30
                                  try clear c30b0
                                  try clear c31
                                  try clear c31b0
                                  try clear c31b1
                                  try clear c32
                                  try clear c32b0
                                  try clear c33
                                  try clear c33b0
                                  try clear p34
                                  try clear q34
                                  try clear hx34
                                  try clear hf34
                                  try clear c35
                                  try clear q35
                                  try clear c37
                                  try clear c37b0
                                  try clear hx112_0
                                  try clear hx116_0
                                  try clear hx117_0
                                  try clear hx20_0
                                  try clear hx22_0
                                  try clear hx25_0
                                  try clear hx34_0
                                  try clear p1
                                  try clear p11
                                  try clear p112
                                  try clear p116
                                  try clear p117
                                  try clear p2
                                  try clear p20
                                  try clear p22
                                  try clear p3
                                  try clear p34
                                  try clear p6
                                  try clear q1
                                  try clear q11
                                  try clear q112
                                  try clear q116
                                  try clear q117
                                  try clear q2
                                  try clear q20
                                  try clear q22
                                  try clear q27
                                  try clear q3
                                  try clear q34
                                  try clear q35
                                  obtain ⟨x5_5, x9_5, rfl, HA, HK5, HO_5, HB⟩ := hrel
                                  have hl5_5 := (Kd.S_reads' HO_5.out).1
                                  rw [hl5_5] at HO_5
                                  (try simp only [hl5_5])
                                  cases gk with
                                  | zero => exact absurd HA.out (by simp [impl_Far.l3])
                                  | succ k5 =>
                                    have H := HA.out
                                    clear HA
                                    simp only [impl_Far.l3] at H
                                    by_cases c38 : x9_5 ≤ (a1.size : Int)
                                    · rw [if_pos c38] at H
                                      have c38b0 : decide (x9_5 ≤ (a1.size : Int)) = true := decide_eq_true c38
                                      clear c38
                                      obtain ⟨ji39, hji39⟩ : ∃ j_ : Int, (wrap64 (x8_4 - 1)) = j_ := ⟨_, rfl⟩
                                      replace H : (if 0 ≤ (ji39) then (if (ji39) < (x5_5.length : Int) then (if 0 ≤ (wrap64 (x9_5 - 1)) then (if (wrap64 (x9_5 - 1)) < ((rd_L1 x5_5 (ji39)).length : Int) then (if (ji39) < (a0.size : Int) then (if (wrap64 (x9_5 - 1)) < (a1.size : Int) then (if (bt a0 (ji39)) = (bt a1 (wrap64 (x9_5 - 1))) then (impl_Far.j5 k5 a0 a1 x5_5 x8_4 x9_5 (rd (rd_L1 x5_5 (ji39)) (wrap64 (x9_5 - 1)))) else (impl_Far.j5 k5 a0 a1 x5_5 x8_4 x9_5 (wrap64 ((rd (rd_L1 x5_5 (ji39)) (wrap64 (x9_5 - 1))) + 1)))) else (none)) else (none)) else (none)) else (none)) else (none)) else (none)) = some r := by first | (rw [hji39] at H; exact H) | (simp only [hji39] at H ⊢; exact H)
                                      have hji39w : (IntKind.i64.wrap (x8_4 - 1)) = ji39 := (i64_w _).trans hji39
                                      by_cases c40 : 0 ≤ (ji39)
                                      · rw [if_pos c40] at H
                                        have c40b0 : decide (0 ≤ (ji39)) = true := decide_eq_true c40
                                        clear c40
                                        by_cases c41 : (ji39) < (x5_5.length : Int)
                                        · rw [if_pos c41] at H
                                          have c41b0 : decide ((ji39) < (x5_5.length : Int)) = true := decide_eq_true c41
                                          try have c41b8 := c41b0
                                          try simp only [hl5_2] at c41b8
                                          try simp only [hl5_3] at c41b8
                                          try simp only [hl5_4] at c41b8
                                          try simp only [hl5_5] at c41b8
                                          clear c41
                                          obtain ⟨ji42, hji42⟩ : ∃ j_ : Int, (wrap64 (x9_5 - 1)) = j_ := ⟨_, rfl⟩
                                          replace H : (if 0 ≤ (ji42) then (if (ji42) < ((rd_L1 x5_5 (ji39)).length : Int) then (if (ji39) < (a0.size : Int) then (if (ji42) < (a1.size : Int) then (if (bt a0 (ji39)) = (bt a1 (ji42)) then (impl_Far.j5 k5 a0 a1 x5_5 x8_4 x9_5 (rd (rd_L1 x5_5 (ji39)) (ji42))) else (impl_Far.j5 k5 a0 a1 x5_5 x8_4 x9_5 (wrap64 ((rd (rd_L1 x5_5 (ji39)) (ji42)) + 1)))) else (none)) else (none)) else (none)) else (none)) = some r := by first | (rw [hji42] at H; exact H) | (simp only [hji42] at H ⊢; exact H)
                                          have hji42w : (IntKind.i64.wrap (x9_5 - 1)) = ji42 := (i64_w _).trans hji42
                                          by_cases c43 : 0 ≤ (ji42)
                                          · rw [if_pos c43] at H
                                            have c43b0 : decide (0 ≤ (ji42)) = true := decide_eq_true c43
                                            clear c43
                                            by_cases c44 : (ji42) < ((rd_L1 x5_5 (ji39)).length : Int)
                                            · rw [if_pos c44] at H
                                              have c44b0 : decide ((ji42) < ((rd_L1 x5_5 (ji39)).length : Int)) = true := decide_eq_true c44
                                              try have c44b8 := c44b0
                                              try simp only [hl5_2] at c44b8
                                              try simp only [hl5_3] at c44b8
                                              try simp only [hl5_4] at c44b8
                                              try simp only [hl5_5] at c44b8
                                              clear c44
                                              by_cases c45 : (ji39) < (a0.size : Int)
                                              · rw [if_pos c45] at H
                                                have c45b0 : decide ((ji39) < (a0.size : Int)) = true := decide_eq_true c45
                                                clear c45
                                                by_cases c47 : (ji42) < (a1.size : Int)
                                                · rw [if_pos c47] at H
                                                  have c47b0 : decide ((ji42) < (a1.size : Int)) = true := decide_eq_true c47
                                                  clear c47
                                                  have HC49 := Aside0.mk H
                                                  clear H
                                                  have p123 : 0 ≤ ((ji39) : Int) := of_decide_eq_true (by first | (with_reducible assumption) | assumption)
                                                  have q123 : (ji39) < (x5_5.length : Int) := of_decide_eq_true (by first | (with_reducible assumption) | assumption)
                                                  obtain ⟨ad123, A123_0, c123_0, e123, hx123_0, hl123_0, hi123_0⟩ := at_L1 (Kd.S_reads' HO_5.out).2.2 (ji39) p123 q123
                                                  obtain rfl : ad116 = ad123 := (by injection e123)
                                                  obtain ⟨ce123, hce123, hMe123, hcc123⟩ := Kd.S_get HO_5.out [] (ji39) p123 (by first | exact q123 | exact of_decide_eq_true (by first | (with_reducible assumption) | assumption) | (have e_ := (Kd.S_reads' HO_5.out).1; omega))
                                                  obtain ⟨ve123_0, rfl, ge123_0⟩ := hMe123
                                                  have hv123_0 := hcc123 0 _ rfl
                                                  rw [Nat.add_zero, show ((Kd.slice 3 (Kd.int .i64))).sz = 1 from rfl, Nat.mul_one] at hv123_0
                                                  replace hv123_0 := Option.some.inj (hv123_0.symm.trans hx123_0)
                                                  rw [hv123_0] at ge123_0
                                                  have HL123_0 := Aside0.mk (show Kd.R (Kd.int .i64) 3 _ _ _ _ (rd_L1 x5_5 (ji39)) from ge123_0)
                                                  clear hv123_0 ge123_0
                                                  have HX123_0 := Aside0.mk hx123_0
                                                  clear hcc123 hce123
                                                  have HR123_0 := Aside0.mk hi123_0
                                                  have HC123_0 := Aside0.mk hl123_0
                                                  clear hi123_0 hl123_0
                                                  replace p123 := eq_true p123
                                                  replace q123 := eq_true q123
                                                  have p124 : 0 ≤ ((ji42) : Int) := of_decide_eq_true (by first | (with_reducible assumption) | assumption)
                                                  have q124 : (ji42) < ((rd_L1 x5_5 (ji39)).length : Int) := of_decide_eq_true (by first | (with_reducible assumption) | assumption)
                                                  obtain ⟨ad124, e124, hx124_0⟩ := Kd.at_int (by repeat (first | (with_reducible exact HR123_0.out) | (with_reducible refine Kd.C_alloc ?_ _) | (with_reducible refine Kd.C_drewN ?_ _) | (with_reducible refine Kd.C_drew ?_) | exact HR123_0.out)) (ji42) p124 q124
                                                  cases e124
                                                  replace p124 := eq_true p124
                                                  replace q124 := eq_true q124
                                                  have p46 : 0 ≤ ((ji39) : Int) := of_decide_eq_true (by first | (with_reducible assumption) | assumption)
                                                  have q46 : (ji39) < (a0.size : Int) := of_decide_eq_true (by first | (with_reducible assumption) | assumption)
                                                  have hx46 := bt_at a0 (ji39)
                                                  replace p46 := eq_true p46
                                                  replace q46 := eq_true q46
                                                  have p48 : 0 ≤ ((ji42) : Int) := of_decide_eq_true (by first | (with_reducible assumption) | assumption)
                                                  have q48 : (ji42) < (a1.size : Int) := of_decide_eq_true (by first | (with_reducible assumption) | assumption)
                                                  have hx48 := bt_at a1 (ji42)
                                                  replace p48 := eq_true p48
                                                  replace q48 := eq_true q48
                                                  go_upto_if 85 with (fail)
                                                  repeat (go_quiet (fail); go_upto_if 85 with (fail))
                                                  go_cut [10] (fun v10 wc => ∃ (kq : Nat) (x10_48 : Int), v10 = .int .i64 x10_48 ∧ Aside0 (impl_Far.j5 kq a0 a1 x5_5 x8_4 x9_5 x10_48 = some r) ∧ Aside0 (kq ≤ k5) ∧ Aside0 (Kd.S (Kd.slice 3 (Kd.int .i64)) 71 wc w.heap.size (fun _ => True) (.slice (some ad116) x5_5.length co13) x5_5) ∧ Aside0 (Kd.C (Kd.int .i64) wc (some ad124) (rd_L1 x5_5 (ji39)).length (rd_L1 x5_5 (ji39))) ∧ Aside0 (Below w.heap.size w wc))
                                                  case first =>
                                                    have H := HC49.out
                                                    clear HC49
                                                    by_cases c50 : (bt a0 (ji39)) = (bt a1 (ji42))
                                                    · rw [if_pos c50] at H
                                                      have c50b0 : ((bt a0 (ji39)) == (bt a1 (ji42))) = true := beq_iff_eq.mpr c50
                                                      have c50b1 : ((bt a0 (ji39)) != (bt a1 (ji42))) = false := bne_eq_false_iff_eq.mpr c50
                                                      clear c50
                                                      (first | rw [c50b0] | (simp only [i64_w, i32_w]; rw [c50b0]) | skip)
                                                      have H' := Aside0.mk H
                                                      clear H
                                                      go_wp2
                                                      repeat (go_quiet (fail); try go_wp2)
                                                      go_meet
                                                      case rel => exact ⟨_, (rd (rd_L1 x5_5 (ji39)) (ji42)), (by first | rfl | (simp; done) | (simp only [← hji39, ← hji42] <;> (first | rfl | simp)) | (simp [*]; done)), H', ⟨by have := HJ2.out; have := HK2.out; have := HK3.out; have := HK4.out; have := HK5.out; first | omega | exact Nat.le_refl _⟩, ⟨by (try simp only [hl5_2]); (try simp only [hl5_3]); (try simp only [hl5_4]); (try simp only [hl5_5]); (with_reducible repeat (first | apply Kd.S_alloc | apply Kd.S_drewN | apply Kd.S_drew)); exact HO_5.out⟩, ⟨by repeat (first | (with_reducible exact HR123_0.out) | (with_reducible refine Kd.C_alloc ?_ _) | (with_reducible refine Kd.C_drewN ?_ _) | (with_reducible refine Kd.C_drew ?_) | exact HR123_0.out)⟩, ⟨by repeat (first | (with_reducible first | exact HB.out | apply below_alloc | apply pw_below_drewN | apply below_drew1) | exact HB.out)⟩⟩
                                                    · rw [if_neg c50] at H
                                                      have c50b0 : ((bt a0 (ji39)) == (bt a1 (ji42))) = false := beq_eq_false_iff_ne.mpr c50
                                                      have c50b1 : ((bt a0 (ji39)) != (bt a1 (ji42))) = true := bne_iff_ne.mpr c50
                                                      (first | rw [c50b0] | (simp only [i64_w, i32_w]; rw [c50b0]) | skip)
                                                      have H' := Aside0.mk H
                                                      clear H
                                                      go_wp2
                                                      repeat (go_quiet (fail); try go_wp2)
                                                      go_meet
                                                      case rel => exact ⟨_, (wrap64 ((rd (rd_L1 x5_5 (ji39)) (ji42)) + 1)), (by first | rfl | (simp; done) | (simp only [← hji39, ← hji42] <;> (first | rfl | simp)) | (simp [*]; done)), H', ⟨by have := HJ2.out; have := HK2.out; have := HK3.out; have := HK4.out; have := HK5.out; first | omega | exact Nat.le_refl _⟩, ⟨by (try simp only [hl5_2]); (try simp only [hl5_3]); (try simp only [hl5_4]); (try simp only [hl5_5]); (with_reducible repeat (first | apply Kd.S_alloc | apply Kd.S_drewN | apply Kd.S_drew)); exact HO_5.out⟩, ⟨by repeat (first | (with_reducible exact HR123_0.out) | (with_reducible refine Kd.C_alloc ?_ _) | (with_reducible refine Kd.C_drewN ?_ _) | (with_reducible refine Kd.C_drew ?_) | exact HR123_0.out)⟩, ⟨by repeat (first | (with_reducible first | exact HB.out | apply below_alloc | apply pw_below_drewN | apply below_drew1) | exact HB.out)⟩⟩
                                                  case rest =>
                                                    clear HC49
                                                    try clear c1
                                                    try clear p1
                                                    try clear q1
                                                    try clear hx1
                                                    try clear qi1
                                                    try clear c2
                                                    try clear p2
                                                    try clear q2
                                                    try clear hx2
                                                    try clear qi2
                                                    try clear hf2
                                                    try clear c3
                                                    try clear p3
                                                    try clear q3
                                                    try clear hx3
                                                    try clear hf3
                                                    try clear c4
                                                    try clear p4
                                                    try clear q4
                                                    try clear hx4
                                                    try clear c5
                                                    try clear p6
                                                    try clear c7
                                                    try clear c9
                                                    try clear c9b0
                                                    try clear c9b1
                                                    try clear c10
                                                    try clear c10b0
                                                    try clear c10b1
                                                    try clear c11
                                                    try clear p11
                                                    try clear q11
                                                    try clear hx11
                                                    try clear qi11
                                                    try clear c12
                                                    try clear p12
                                                    try clear q12
                                                    try clear hx12
                                                    try clear c14
                                                    try clear c14b0
                                                    try clear c16
                                                    try clear c16b0
                                                    try clear c16b1
                                                    try clear c17
                                                    try clear c17b0
                                                    try clear c17b1
                                                    try clear c18
                                                    try clear c18b0
                                                    try clear c19
                                                    try clear c19b0
                                                    try clear c20
                                                    try clear p20
                                                    try clear q20
                                                    try clear hx20
                                                    try clear hf20
                                                    try clear c21
                                                    try clear c21b0
                                                    try clear c21b1
                                                    try clear p22
                                                    try clear q22
                                                    try clear hx22
                                                    try clear qi22
                                                    try clear hf22
                                                    try clear c25
                                                    try clear hx25
                                                    try clear hf25
                                                    try clear c27
                                                    try clear q27
                                                    try clear c29
                                                    try clear c29b0
                                                    try clear c29b1
                                                    try clear c30
                                                    try clear c30b0
                                                    try clear c31
                                                    try clear c31b0
                                                    try clear c31b1
                                                    try clear c32
                                                    try clear c32b0
                                                    try clear c33
                                                    try clear c33b0
                                                    try clear p34
                                                    try clear q34
                                                    try clear hx34
                                                    try clear hf34
                                                    try clear c35
                                                    try clear q35
                                                    try clear c37
                                                    try clear c37b0
                                                    try clear c38
                                                    try clear c38b0
                                                    try clear c40
                                                    try clear c40b0
                                                    try clear c41
                                                    try clear c41b0
                                                    try clear c43
                                                    try clear c43b0
                                                    try clear c44
                                                    try clear c44b0
                                                    try clear c45
                                                    try clear c45b0
                                                    try clear p46
                                                    try clear q46
                                                    try clear hx46
                                                    try clear c47
                                                    try clear c47b0
                                                    try clear p48
                                                    try clear q48
                                                    try clear hx48
                                                    try clear c50
                                                    try clear c50b0
                                                    try clear c50b1
                                                    try clear hx112_0
                                                    try clear hx116_0
                                                    try clear hx117_0
                                                    try clear hx123_0
                                                    try clear hx124_0
                                                    try clear hx20_0
                                                    try clear hx22_0
                                                    try clear hx25_0
                                                    try clear hx34_0
                                                    try clear p1
                                                    try clear p11
                                                    try clear p112
                                                    try clear p116
                                                    try clear p117
                                                    try clear p123
                                                    try clear p124
                                                    try clear p2
                                                    try clear p20
                                                    try clear p22
                                                    try clear p3
                                                    try clear p34
                                                    try clear p46
                                                    try clear p48
                                                    try clear p6
                                                    try clear q1
                                                    try clear q11
                                                    try clear q112
                                                    try clear q116
                                                    try clear q117
                                                    try clear q123
                                                    try clear q124
                                                    try clear q2
                                                    try clear q20
                                                    try clear q22
                                                    try clear q27
                                                    try clear q3
                                                    try clear q34
                                                    try clear q35
                                                    try clear q46
                                                    try clear q48
                                                    obtain ⟨kq, x10_48, rfl, HA, HJ48, HO_5, HR123_0, HB⟩ := hcut
                                                    cases kq with
                                                    | zero => exact absurd HA.out (by simp [impl_Far.j5])
                                                    | succ kj48 =>
                                                      have H := HA.out
                                                      clear HA
                                                      simp only [impl_Far.j5] at H
                                                      obtain ⟨ji51, hji51⟩ : ∃ j_ : Int, (wrap64 (x8_4 - 1)) = j_ := ⟨_, rfl⟩
                                                      replace H : (if 0 ≤ (ji51) then (if (ji51) < (x5_5.length : Int) then (if 0 ≤ x9_5 then (if x9_5 < ((rd_L1 x5_5 (ji51)).length : Int) then (if 0 ≤ x8_4 then (if x8_4 < (x5_5.length : Int) then (if 0 ≤ (wrap64 (x9_5 - 1)) then (if (wrap64 (x9_5 - 1)) < ((rd_L1 x5_5 x8_4).length : Int) then (if x8_4 > 1 then (if x9_5 > 1 then (if (ji51) < (a0.size : Int) then (if 0 ≤ (wrap64 (x9_5 - 2)) then (if (wrap64 (x9_5 - 2)) < (a1.size : Int) then (if (bt a0 (ji51)) = (bt a1 (wrap64 (x9_5 - 2))) then (if 0 ≤ (wrap64 (x8_4 - 2)) then (if (wrap64 (x8_4 - 2)) < (a0.size : Int) then (if (wrap64 (x9_5 - 1)) < (a1.size : Int) then (impl_Far.j6 kj48 a0 a1 x5_5 x8_4 x9_5 (mn (mn x10_48 (wrap64 ((rd (rd_L1 x5_5 (ji51)) x9_5) + 1))) (wrap64 ((rd (rd_L1 x5_5 x8_4) (wrap64 (x9_5 - 1))) + 1))) ((bt a0 (wrap64 (x8_4 - 2))) == (bt a1 (wrap64 (x9_5 - 1))))) else (none)) else (none)) else (none)) else (impl_Far.j6 kj48 a0 a1 x5_5 x8_4 x9_5 (mn (mn x10_48 (wrap64 ((rd (rd_L1 x5_5 (ji51)) x9_5) + 1))) (wrap64 ((rd (rd_L1 x5_5 x8_4) (wrap64 (x9_5 - 1))) + 1))) false)) else (none)) else (none)) else (none)) else (impl_Far.j6 kj48 a0 a1 x5_5 x8_4 x9_5 (mn (mn x10_48 (wrap64 ((rd (rd_L1 x5_5 (ji51)) x9_5) + 1))) (wrap64 ((rd (rd_L1 x5_5 x8_4) (wrap64 (x9_5 - 1))) + 1))) false)) else (impl_Far.j6 kj48 a0 a1 x5_5 x8_4 x9_5 (mn (mn x10_48 (wrap64 ((rd (rd_L1 x5_5 (ji51)) x9_5) + 1))) (wrap64 ((rd (rd_L1 x5_5 x8_4) (wrap64 (x9_5 - 1))) + 1))) false)) else (none)) else (none)) else (none)) else (none)) else (none)) else (none)) else (none)) else (none)) = some r := by first | (rw [hji51] at H; exact H) | (simp only [hji51] at H ⊢; exact H)
                                                      have hji51w : (IntKind.i64.wrap (x8_4 - 1)) = ji51 := (i64_w _).trans hji51
                                                      (try clear hji39w)
                                                      by_cases c52 : 0 ≤ (ji51)
                                                      · rw [if_pos c52] at H
                                                        have c52b0 : decide (0 ≤ (ji51)) = true := decide_eq_true c52
                                                        clear c52
                                                        by_cases c53 : (ji51) < (x5_5.length : Int)
                                                        · rw [if_pos c53] at H
                                                          have c53b0 : decide ((ji51) < (x5_5.length : Int)) = true := decide_eq_true c53
                                                          try have c53b8 := c53b0
                                                          try simp only [hl5_2] at c53b8
                                                          try simp only [hl5_3] at c53b8
                                                          try simp only [hl5_4] at c53b8
                                                          try simp only [hl5_5] at c53b8
                                                          clear c53
                                                          by_cases c54 : 0 ≤ x9_5
                                                          · rw [if_pos c54] at H
                                                            have c54b0 : decide (0 ≤ x9_5) = true := decide_eq_true c54
                                                            clear c54
                                                            by_cases c55 : x9_5 < ((rd_L1 x5_5 (ji51)).length : Int)
                                                            · rw [if_pos c55] at H
                                                              have c55b0 : decide (x9_5 < ((rd_L1 x5_5 (ji51)).length : Int)) = true := decide_eq_true c55
                                                              try have c55b8 := c55b0
                                                              try simp only [hl5_2] at c55b8
                                                              try simp only [hl5_3] at c55b8
                                                              try simp only [hl5_4] at c55b8
                                                              try simp only [hl5_5] at c55b8
                                                              clear c55
                                                              by_cases c56 : 0 ≤ x8_4
                                                              · rw [if_pos c56] at H
                                                                have c56b0 : decide (0 ≤ x8_4) = true := decide_eq_true c56
                                                                clear c56
                                                                by_cases c57 : x8_4 < (x5_5.length : Int)
                                                                · rw [if_pos c57] at H
                                                                  have c57b0 : decide (x8_4 < (x5_5.length : Int)) = true := decide_eq_true c57
                                                                  try have c57b8 := c57b0
                                                                  try simp only [hl5_2] at c57b8
                                                                  try simp only [hl5_3] at c57b8
                                                                  try simp only [hl5_4] at c57b8
                                                                  try simp only [hl5_5] at c57b8
                                                                  clear c57
                                                                  obtain ⟨ji58, hji58⟩ : ∃ j_ : Int, (wrap64 (x9_5 - 1)) = j_ := ⟨_, rfl⟩
                                                                  replace H : (if 0 ≤ (ji58) then (if (ji58) < ((rd_L1 x5_5 x8_4).length : Int) then (if x8_4 > 1 then (if x9_5 > 1 then (if (ji51) < (a0.size : Int) then (if 0 ≤ (wrap64 (x9_5 - 2)) then (if (wrap64 (x9_5 - 2)) < (a1.size : Int) then (if (bt a0 (ji51)) = (bt a1 (wrap64 (x9_5 - 2))) then (if 0 ≤ (wrap64 (x8_4 - 2)) then (if (wrap64 (x8_4 - 2)) < (a0.size : Int) then (if (ji58) < (a1.size : Int) then (impl_Far.j6 kj48 a0 a1 x5_5 x8_4 x9_5 (mn (mn x10_48 (wrap64 ((rd (rd_L1 x5_5 (ji51)) x9_5) + 1))) (wrap64 ((rd (rd_L1 x5_5 x8_4) (ji58)) + 1))) ((bt a0 (wrap64 (x8_4 - 2))) == (bt a1 (ji58)))) else (none)) else (none)) else (none)) else (impl_Far.j6 kj48 a0 a1 x5_5 x8_4 x9_5 (mn (mn x10_48 (wrap64 ((rd (rd_L1 x5_5 (ji51)) x9_5) + 1))) (wrap64 ((rd (rd_L1 x5_5 x8_4) (ji58)) + 1))) false)) else (none)) else (none)) else (none)) else (impl_Far.j6 kj48 a0 a1 x5_5 x8_4 x9_5 (mn (mn x10_48 (wrap64 ((rd (rd_L1 x5_5 (ji51)) x9_5) + 1))) (wrap64 ((rd (rd_L1 x5_5 x8_4) (ji58)) + 1))) false)) else (impl_Far.j6 kj48 a0 a1 x5_5 x8_4 x9_5 (mn (mn x10_48 (wrap64 ((rd (rd_L1 x5_5 (ji51)) x9_5) + 1))) (wrap64 ((rd (rd_L1 x5_5 x8_4) (ji58)) + 1))) false)) else (none)) else (none)) = some r := by first | (rw [hji58] at H; exact H) | (simp only [hji58] at H ⊢; exact H)
                                                                  have hji58w : (IntKind.i64.wrap (x9_5 - 1)) = ji58 := (i64_w _).trans hji58
                                                                  (try clear hji42w)
                                                                  by_cases c59 : 0 ≤ (ji58)
                                                                  · rw [if_pos c59] at H
                                                                    have c59b0 : decide (0 ≤ (ji58)) = true := decide_eq_true c59
                                                                    clear c59
                                                                    by_cases c60 : (ji58) < ((rd_L1 x5_5 x8_4).length : Int)
                                                                    · rw [if_pos c60] at H
                                                                      have c60b0 : decide ((ji58) < ((rd_L1 x5_5 x8_4).length : Int)) = true := decide_eq_true c60
                                                                      try have c60b8 := c60b0
                                                                      try simp only [hl5_2] at c60b8
                                                                      try simp only [hl5_3] at c60b8
                                                                      try simp only [hl5_4] at c60b8
                                                                      try simp only [hl5_5] at c60b8
                                                                      clear c60
                                                                      obtain ⟨ji61, hji61⟩ : ∃ j_ : Int, (mn x10_48 (wrap64 ((rd (rd_L1 x5_5 (ji51)) x9_5) + 1))) = j_ := ⟨_, rfl⟩
                                                                      replace H : (if x8_4 > 1 then (if x9_5 > 1 then (if (ji51) < (a0.size : Int) then (if 0 ≤ (wrap64 (x9_5 - 2)) then (if (wrap64 (x9_5 - 2)) < (a1.size : Int) then (if (bt a0 (ji51)) = (bt a1 (wrap64 (x9_5 - 2))) then (if 0 ≤ (wrap64 (x8_4 - 2)) then (if (wrap64 (x8_4 - 2)) < (a0.size : Int) then (if (ji58) < (a1.size : Int) then (impl_Far.j6 kj48 a0 a1 x5_5 x8_4 x9_5 (mn (ji61) (wrap64 ((rd (rd_L1 x5_5 x8_4) (ji58)) + 1))) ((bt a0 (wrap64 (x8_4 - 2))) == (bt a1 (ji58)))) else (none)) else (none)) else (none)) else (impl_Far.j6 kj48 a0 a1 x5_5 x8_4 x9_5 (mn (ji61) (wrap64 ((rd (rd_L1 x5_5 x8_4) (ji58)) + 1))) false)) else (none)) else (none)) else (none)) else (impl_Far.j6 kj48 a0 a1 x5_5 x8_4 x9_5 (mn (ji61) (wrap64 ((rd (rd_L1 x5_5 x8_4) (ji58)) + 1))) false)) else (impl_Far.j6 kj48 a0 a1 x5_5 x8_4 x9_5 (mn (ji61) (wrap64 ((rd (rd_L1 x5_5 x8_4) (ji58)) + 1))) false)) = some r := by first | (rw [hji61] at H; exact H) | (simp only [hji61] at H ⊢; exact H)
                                                                      have hji61_ : (if (wrap64 ((rd (rd_L1 x5_5 (ji51)) x9_5) + 1)) < x10_48 then (wrap64 ((rd (rd_L1 x5_5 (ji51)) x9_5) + 1)) else x10_48) = ji61 := hji61
                                                                      obtain ⟨ji62, hji62⟩ : ∃ j_ : Int, (mn (ji61) (wrap64 ((rd (rd_L1 x5_5 x8_4) (ji58)) + 1))) = j_ := ⟨_, rfl⟩
                                                                      replace H : (if x8_4 > 1 then (if x9_5 > 1 then (if (ji51) < (a0.size : Int) then (if 0 ≤ (wrap64 (x9_5 - 2)) then (if (wrap64 (x9_5 - 2)) < (a1.size : Int) then (if (bt a0 (ji51)) = (bt a1 (wrap64 (x9_5 - 2))) then (if 0 ≤ (wrap64 (x8_4 - 2)) then (if (wrap64 (x8_4 - 2)) < (a0.size : Int) then (if (ji58) < (a1.size : Int) then (impl_Far.j6 kj48 a0 a1 x5_5 x8_4 x9_5 ji62 ((bt a0 (wrap64 (x8_4 - 2))) == (bt a1 (ji58)))) else (none)) else (none)) else (none)) else (impl_Far.j6 kj48 a0 a1 x5_5 x8_4 x9_5 ji62 false)) else (none)) else (none)) else (none)) else (impl_Far.j6 kj48 a0 a1 x5_5 x8_4 x9_5 ji62 false)) else (impl_Far.j6 kj48 a0 a1 x5_5 x8_4 x9_5 ji62 false)) = some r := by first | (rw [hji62] at H; exact H) | (simp only [hji62] at H ⊢; exact H)
                                                                      have hji62_ : (if (wrap64 ((rd (rd_L1 x5_5 x8_4) (ji58)) + 1)) < (ji61) then (wrap64 ((rd (rd_L1 x5_5 x8_4) (ji58)) + 1)) else (ji61)) = ji62 := hji62
                                                                      have HC63 := Aside0.mk H
                                                                      clear H
                                                                      have p125 : 0 ≤ ((ji51) : Int) := of_decide_eq_true (by first | (with_reducible assumption) | assumption)
                                                                      have q125 : (ji51) < (x5_5.length : Int) := of_decide_eq_true (by first | (with_reducible assumption) | assumption)
                                                                      obtain ⟨ad125, A125_0, c125_0, e125, hx125_0, hl125_0, hi125_0⟩ := at_L1 (Kd.S_reads' HO_5.out).2.2 (ji51) p125 q125
                                                                      obtain rfl : ad116 = ad125 := (by injection e125)
                                                                      obtain ⟨ce125, hce125, hMe125, hcc125⟩ := Kd.S_get HO_5.out [] (ji51) p125 (by first | exact q125 | exact of_decide_eq_true (by first | (with_reducible assumption) | assumption) | (have e_ := (Kd.S_reads' HO_5.out).1; omega))
                                                                      obtain ⟨ve125_0, rfl, ge125_0⟩ := hMe125
                                                                      have hv125_0 := hcc125 0 _ rfl
                                                                      rw [Nat.add_zero, show ((Kd.slice 3 (Kd.int .i64))).sz = 1 from rfl, Nat.mul_one] at hv125_0
                                                                      replace hv125_0 := Option.some.inj (hv125_0.symm.trans hx125_0)
                                                                      rw [hv125_0] at ge125_0
                                                                      have HL125_0 := Aside0.mk (show Kd.R (Kd.int .i64) 3 _ _ _ _ (rd_L1 x5_5 (ji51)) from ge125_0)
                                                                      clear hv125_0 ge125_0
                                                                      have HX125_0 := Aside0.mk hx125_0
                                                                      clear hcc125 hce125
                                                                      have HR125_0 := Aside0.mk hi125_0
                                                                      have HC125_0 := Aside0.mk hl125_0
                                                                      clear hi125_0 hl125_0
                                                                      replace p125 := eq_true p125
                                                                      replace q125 := eq_true q125
                                                                      have p126 : 0 ≤ (x9_5 : Int) := of_decide_eq_true (by first | (with_reducible assumption) | assumption)
                                                                      have q126 : x9_5 < ((rd_L1 x5_5 (ji51)).length : Int) := of_decide_eq_true (by first | (with_reducible assumption) | assumption)
                                                                      obtain ⟨ad126, e126, hx126_0⟩ := Kd.at_int (by repeat (first | (with_reducible exact HR125_0.out) | (with_reducible refine Kd.C_alloc ?_ _) | (with_reducible refine Kd.C_drewN ?_ _) | (with_reducible refine Kd.C_drew ?_) | exact HR125_0.out)) x9_5 p126 q126
                                                                      cases e126
                                                                      replace p126 := eq_true p126
                                                                      replace q126 := eq_true q126
                                                                      have p127 : 0 ≤ (x8_4 : Int) := of_decide_eq_true (by first | (with_reducible assumption) | assumption)
                                                                      have q127 : x8_4 < (x5_5.length : Int) := of_decide_eq_true (by first | (with_reducible assumption) | assumption)
                                                                      obtain ⟨ad127, A127_0, c127_0, e127, hx127_0, hl127_0, hi127_0⟩ := at_L1 (Kd.S_reads' HO_5.out).2.2 x8_4 p127 q127
                                                                      obtain rfl : ad116 = ad127 := (by injection e127)
                                                                      obtain ⟨ce127, hce127, hMe127, hcc127⟩ := Kd.S_get HO_5.out [] x8_4 p127 (by first | exact q127 | exact of_decide_eq_true (by first | (with_reducible assumption) | assumption) | (have e_ := (Kd.S_reads' HO_5.out).1; omega))
                                                                      obtain ⟨ve127_0, rfl, ge127_0⟩ := hMe127
                                                                      have hv127_0 := hcc127 0 _ rfl
                                                                      rw [Nat.add_zero, show ((Kd.slice 3 (Kd.int .i64))).sz = 1 from rfl, Nat.mul_one] at hv127_0
                                                                      replace hv127_0 := Option.some.inj (hv127_0.symm.trans hx127_0)
                                                                      rw [hv127_0] at ge127_0
                                                                      have HL127_0 := Aside0.mk (show Kd.R (Kd.int .i64) 3 _ _ _ _ (rd_L1 x5_5 x8_4) from ge127_0)
                                                                      clear hv127_0 ge127_0
                                                                      have HX127_0 := Aside0.mk hx127_0
                                                                      clear hcc127 hce127
                                                                      have HR127_0 := Aside0.mk hi127_0
                                                                      have HC127_0 := Aside0.mk hl127_0
                                                                      clear hi127_0 hl127_0
                                                                      replace p127 := eq_true p127
                                                                      replace q127 := eq_true q127
                                                                      have p128 : 0 ≤ ((ji58) : Int) := of_decide_eq_true (by first | (with_reducible assumption) | assumption)
                                                                      have q128 : (ji58) < ((rd_L1 x5_5 x8_4).length : Int) := of_decide_eq_true (by first | (with_reducible assumption) | assumption)
                                                                      obtain ⟨ad128, e128, hx128_0⟩ := Kd.at_int (by repeat (first | (with_reducible exact HR127_0.out) | (with_reducible refine Kd.C_alloc ?_ _) | (with_reducible refine Kd.C_drewN ?_ _) | (with_reducible refine Kd.C_drew ?_) | exact HR127_0.out)) (ji58) p128 q128
                                                                      cases e128
                                                                      replace p128 := eq_true p128
                                                                      replace q128 := eq_true q128
                                                                      go_upto_region 25 with (fail)
                                                                      repeat (go_quiet (fail); go_upto_region 25 with (fail))
                                                                      go_cut [135] (fun v135 wc => ∃ (kq : Nat) (x135_62 : Bool), v135 = .bool x135_62 ∧ Aside0 (impl_Far.j6 kq a0 a1 x5_5 x8_4 x9_5 ji62 x135_62 = some r) ∧ Aside0 (kq ≤ kj48) ∧ Aside0 (Kd.S (Kd.slice 3 (Kd.int .i64)) 71 wc w.heap.size (fun _ => True) (.slice (some ad116) x5_5.length co13) x5_5) ∧ Aside0 (Kd.C (Kd.int .i64) wc (some ad124) (rd_L1 x5_5 (ji39)).length (rd_L1 x5_5 (ji39))) ∧ Aside0 (Kd.C (Kd.int .i64) wc (some ad126) (rd_L1 x5_5 (ji51)).length (rd_L1 x5_5 (ji51))) ∧ Aside0 (Kd.C (Kd.int .i64) wc (some ad128) (rd_L1 x5_5 x8_4).length (rd_L1 x5_5 x8_4)) ∧ Aside0 (Below w.heap.size w wc))
                                                                      case first =>
                                                                        have H := HC63.out
                                                                        clear HC63
                                                                        by_cases c64 : x8_4 > 1
                                                                        · rw [if_pos c64] at H
                                                                          have c64b0 : decide (1 < x8_4) = true := decide_eq_true c64
                                                                          clear c64
                                                                          (first | rw [c64b0] | (simp only [i64_w, i32_w]; rw [c64b0]) | skip)
                                                                          by_cases c65 : x9_5 > 1
                                                                          · rw [if_pos c65] at H
                                                                            have c65b0 : decide (1 < x9_5) = true := decide_eq_true c65
                                                                            clear c65
                                                                            by_cases c66 : (ji51) < (a0.size : Int)
                                                                            · rw [if_pos c66] at H
                                                                              have c66b0 : decide ((ji51) < (a0.size : Int)) = true := decide_eq_true c66
                                                                              clear c66
                                                                              obtain ⟨ji68, hji68⟩ : ∃ j_ : Int, (wrap64 (x9_5 - 2)) = j_ := ⟨_, rfl⟩
                                                                              replace H : (if 0 ≤ (ji68) then (if (ji68) < (a1.size : Int) then (if (bt a0 (ji51)) = (bt a1 (ji68)) then (if 0 ≤ (wrap64 (x8_4 - 2)) then (if (wrap64 (x8_4 - 2)) < (a0.size : Int) then (if (ji58) < (a1.size : Int) then (impl_Far.j6 kj48 a0 a1 x5_5 x8_4 x9_5 ji62 ((bt a0 (wrap64 (x8_4 - 2))) == (bt a1 (ji58)))) else (none)) else (none)) else (none)) else (impl_Far.j6 kj48 a0 a1 x5_5 x8_4 x9_5 ji62 false)) else (none)) else (none)) = some r := by first | (rw [hji68] at H; exact H) | (simp only [hji68] at H ⊢; exact H)
                                                                              have hji68w : (IntKind.i64.wrap (x9_5 - 2)) = ji68 := (i64_w _).trans hji68
                                                                              by_cases c69 : 0 ≤ (ji68)
                                                                              · rw [if_pos c69] at H
                                                                                have c69b0 : decide (0 ≤ (ji68)) = true := decide_eq_true c69
                                                                                clear c69
                                                                                by_cases c70 : (ji68) < (a1.size : Int)
                                                                                · rw [if_pos c70] at H
                                                                                  have c70b0 : decide ((ji68) < (a1.size : Int)) = true := decide_eq_true c70
                                                                                  clear c70
                                                                                  by_cases c72 : (bt a0 (ji51)) = (bt a1 (ji68))
                                                                                  · rw [if_pos c72] at H
                                                                                    have c72b0 : ((bt a0 (ji51)) == (bt a1 (ji68))) = true := beq_iff_eq.mpr c72
                                                                                    have c72b1 : ((bt a0 (ji51)) != (bt a1 (ji68))) = false := bne_eq_false_iff_eq.mpr c72
                                                                                    clear c72
                                                                                    obtain ⟨ji73, hji73⟩ : ∃ j_ : Int, (wrap64 (x8_4 - 2)) = j_ := ⟨_, rfl⟩
                                                                                    replace H : (if 0 ≤ (ji73) then (if (ji73) < (a0.size : Int) then (if (ji58) < (a1.size : Int) then (impl_Far.j6 kj48 a0 a1 x5_5 x8_4 x9_5 ji62 ((bt a0 (ji73)) == (bt a1 (ji58)))) else (none)) else (none)) else (none)) = some r := by first | (rw [hji73] at H; exact H) | (simp only [hji73] at H ⊢; exact H)
                                                                                    have hji73w : (IntKind.i64.wrap (x8_4 - 2)) = ji73 := (i64_w _).trans hji73
                                                                                    by_cases c74 : 0 ≤ (ji73)
                                                                                    · rw [if_pos c74] at H
                                                                                      have c74b0 : decide (0 ≤ (ji73)) = true := decide_eq_true c74
                                                                                      clear c74
                                                                                      by_cases c75 : (ji73) < (a0.size : Int)
                                                                                      · rw [if_pos c75] at H
                                                                                        have c75b0 : decide ((ji73) < (a0.size : Int)) = true := decide_eq_true c75
                                                                                        clear c75
                                                                                        by_cases c77 : (ji58) < (a1.size : Int)
                                                                                        · rw [if_pos c77] at H
                                                                                          have c77b0 : decide ((ji58) < (a1.size : Int)) = true := decide_eq_true c77
                                                                                          clear c77
                                                                                          have H' := Aside0.mk H
                                                                                          clear H
                                                                                          have p67 : 0 ≤ ((ji51) : Int) := of_decide_eq_true (by first | (with_reducible assumption) | assumption)
                                                                                          have q67 : (ji51) < (a0.size : Int) := of_decide_eq_true (by first | (with_reducible assumption) | assumption)
                                                                                          have hx67 := bt_at a0 (ji51)
                                                                                          replace p67 := eq_true p67
                                                                                          replace q67 := eq_true q67
                                                                                          have p71 : 0 ≤ ((ji68) : Int) := of_decide_eq_true (by first | (with_reducible assumption) | assumption)
                                                                                          have q71 : (ji68) < (a1.size : Int) := of_decide_eq_true (by first | (with_reducible assumption) | assumption)
                                                                                          have hx71 := bt_at a1 (ji68)
                                                                                          replace p71 := eq_true p71
                                                                                          replace q71 := eq_true q71
                                                                                          have p76 : 0 ≤ ((ji73) : Int) := of_decide_eq_true (by first | (with_reducible assumption) | assumption)
                                                                                          have q76 : (ji73) < (a0.size : Int) := of_decide_eq_true (by first | (with_reducible assumption) | assumption)
                                                                                          have hx76 := bt_at a0 (ji73)
                                                                                          replace p76 := eq_true p76
                                                                                          replace q76 := eq_true q76
                                                                                          have p78 : 0 ≤ ((ji58) : Int) := of_decide_eq_true (by first | (with_reducible assumption) | assumption)
                                                                                          have q78 : (ji58) < (a1.size : Int) := of_decide_eq_true (by first | (with_reducible assumption) | assumption)
                                                                                          have hx78 := bt_at a1 (ji58)
                                                                                          replace p78 := eq_true p78
                                                                                          replace q78 := eq_true q78
                                                                                          go_wp2
                                                                                          repeat (go_quiet (fail); try go_wp2)
                                                                                          go_meet
                                                                                          case rel => exact ⟨_, (((bt a0 (ji73)) == (bt a1 (ji58)))), (by first | rfl | (simp; done) | (simp only [← hji58, ← hji73] <;> (first | rfl | simp)) | (simp [*]; done)), H', ⟨by have := HJ2.out; have := HK2.out; have := HK3.out; have := HK4.out; have := HK5.out; have := HJ48.out; first | omega | exact Nat.le_refl _⟩, ⟨by (try simp only [hl5_2]); (try simp only [hl5_3]); (try simp only [hl5_4]); (try simp only [hl5_5]); (with_reducible repeat (first | apply Kd.S_alloc | apply Kd.S_drewN | apply Kd.S_drew)); exact HO_5.out⟩, ⟨by repeat (first | (with_reducible exact HR123_0.out) | (with_reducible refine Kd.C_alloc ?_ _) | (with_reducible refine Kd.C_drewN ?_ _) | (with_reducible refine Kd.C_drew ?_) | exact HR123_0.out)⟩, ⟨by repeat (first | (with_reducible exact HR125_0.out) | (with_reducible refine Kd.C_alloc ?_ _) | (with_reducible refine Kd.C_drewN ?_ _) | (with_reducible refine Kd.C_drew ?_) | exact HR125_0.out)⟩, ⟨by repeat (first | (with_reducible exact HR127_0.out) | (with_reducible refine Kd.C_alloc ?_ _) | (with_reducible refine Kd.C_drewN ?_ _) | (with_reducible refine Kd.C_drew ?_) | exact HR127_0.out)⟩, ⟨by repeat (first | (with_reducible first | exact HB.out | apply below_alloc | apply pw_below_drewN | apply below_drew1) | exact HB.out)⟩⟩
                                                                                        · rw [if_neg c77] at H
                                                                                          exact absurd H (by simp)
                                                                                      · rw [if_neg c75] at H
                                                                                        exact absurd H (by simp)
                                                                                    · rw [if_neg c74] at H
                                                                                      exact absurd H (by simp)
                                                                                  · rw [if_neg c72] at H
                                                                                    have c72b0 : ((bt a0 (ji51)) == (bt a1 (ji68))) = false := beq_eq_false_iff_ne.mpr c72
                                                                                    have c72b1 : ((bt a0 (ji51)) != (bt a1 (ji68))) = true := bne_iff_ne.mpr c72
                                                                                    have H' := Aside0.mk H
                                                                                    clear H
                                                                                    have p67 : 0 ≤ ((ji51) : Int) := of_decide_eq_true (by first | (with_reducible assumption) | assumption)
                                                                                    have q67 : (ji51) < (a0.size : Int) := of_decide_eq_true (by first | (with_reducible assumption) | assumption)
                                                                                    have hx67 := bt_at a0 (ji51)
                                                                                    replace p67 := eq_true p67
                                                                                    replace q67 := eq_true q67
                                                                                    have p71 : 0 ≤ ((ji68) : Int) := of_decide_eq_true (by first | (with_reducible assumption) | assumption)
                                                                                    have q71 : (ji68) < (a1.size : Int) := of_decide_eq_true (by first | (with_reducible assumption) | assumption)
                                                                                    have hx71 := bt_at a1 (ji68)
                                                                                    replace p71 := eq_true p71
                                                                                    replace q71 := eq_true q71
                                                                                    go_wp2
                                                                                    repeat (go_quiet (fail); try go_wp2)
                                                                                    go_meet
                                                                                    case rel => exact ⟨_, (false), (by first | rfl | (simp; done) | (simp [*]; done)), H', ⟨by have := HJ2.out; have := HK2.out; have := HK3.out; have := HK4.out; have := HK5.out; have := HJ48.out; first | omega | exact Nat.le_refl _⟩, ⟨by (try simp only [hl5_2]); (try simp only [hl5_3]); (try simp only [hl5_4]); (try simp only [hl5_5]); (with_reducible repeat (first | apply Kd.S_alloc | apply Kd.S_drewN | apply Kd.S_drew)); exact HO_5.out⟩, ⟨by repeat (first | (with_reducible exact HR123_0.out) | (with_reducible refine Kd.C_alloc ?_ _) | (with_reducible refine Kd.C_drewN ?_ _) | (with_reducible refine Kd.C_drew ?_) | exact HR123_0.out)⟩, ⟨by repeat (first | (with_reducible exact HR125_0.out) | (with_reducible refine Kd.C_alloc ?_ _) | (with_reducible refine Kd.C_drewN ?_ _) | (with_reducible refine Kd.C_drew ?_) | exact HR125_0.out)⟩, ⟨by repeat (first | (with_reducible exact HR127_0.out) | (with_reducible refine Kd.C_alloc ?_ _) | (with_reducible refine Kd.C_drewN ?_ _) | (with_reducible refine Kd.C_drew ?_) | exact HR127_0.out)⟩, ⟨by repeat (first | (with_reducible first | exact HB.out | apply below_alloc | apply pw_below_drewN | apply below_drew1) | exact HB.out)⟩⟩
                                                                                · rw [if_neg c70] at H
                                                                                  exact absurd H (by simp)
                                                                              · rw [if_neg c69] at H
                                                                                exact absurd H (by simp)
                                                                            · rw [if_neg c66] at H
                                                                              exact absurd H (by simp)
                                                                          · rw [if_neg c65] at H
                                                                            have c65b0 : decide (1 < x9_5) = false := decide_eq_false c65
                                                                            clear c65
                                                                            have H' := Aside0.mk H
                                                                            clear H
                                                                            go_wp2
                                                                            repeat (go_quiet (fail); try go_wp2)
                                                                            go_meet
                                                                            case rel => exact ⟨_, (false), (by first | rfl | (simp; done) | (simp [*]; done)), H', ⟨by have := HJ2.out; have := HK2.out; have := HK3.out; have := HK4.out; have := HK5.out; have := HJ48.out; first | omega | exact Nat.le_refl _⟩, ⟨by (try simp only [hl5_2]); (try simp only [hl5_3]); (try simp only [hl5_4]); (try simp only [hl5_5]); (with_reducible repeat (first | apply Kd.S_alloc | apply Kd.S_drewN | apply Kd.S_drew)); exact HO_5.out⟩, ⟨by repeat (first | (with_reducible exact HR123_0.out) | (with_reducible refine Kd.C_alloc ?_ _) | (with_reducible refine Kd.C_drewN ?_ _) | (with_reducible refine Kd.C_drew ?_) | exact HR123_0.out)⟩, ⟨by repeat (first | (with_reducible exact HR125_0.out) | (with_reducible refine Kd.C_alloc ?_ _) | (with_reducible refine Kd.C_drewN ?_ _) | (with_reducible refine Kd.C_drew ?_) | exact HR125_0.out)⟩, ⟨by repeat (first | (with_reducible exact HR127_0.out) | (with_reducible refine Kd.C_alloc ?_ _) | (with_reducible refine Kd.C_drewN ?_ _) | (with_reducible refine Kd.C_drew ?_) | exact HR127_0.out)⟩, ⟨by repeat (first | (with_reducible first | exact HB.out | apply below_alloc | apply pw_below_drewN | apply below_drew1) | exact HB.out)⟩⟩
                                                                        · rw [if_neg c64] at H
                                                                          have c64b0 : decide (1 < x8_4) = false := decide_eq_false c64
                                                                          clear c64
                                                                          (first | rw [c64b0] | (simp only [i64_w, i32_w]; rw [c64b0]) | skip)
                                                                          have H' := Aside0.mk H
                                                                          clear H
                                                                          go_wp2
                                                                          repeat (go_quiet (fail); try go_wp2)
                                                                          go_meet
                                                                          case rel => exact ⟨_, (false), (by first | rfl | (simp; done) | (simp [*]; done)), H', ⟨by have := HJ2.out; have := HK2.out; have := HK3.out; have := HK4.out; have := HK5.out; have := HJ48.out; first | omega | exact Nat.le_refl _⟩, ⟨by (try simp only [hl5_2]); (try simp only [hl5_3]); (try simp only [hl5_4]); (try simp only [hl5_5]); (with_reducible repeat (first | apply Kd.S_alloc | apply Kd.S_drewN | apply Kd.S_drew)); exact HO_5.out⟩, ⟨by repeat (first | (with_reducible exact HR123_0.out) | (with_reducible refine Kd.C_alloc ?_ _) | (with_reducible refine Kd.C_drewN ?_ _) | (with_reducible refine Kd.C_drew ?_) | exact HR123_0.out)⟩, ⟨by repeat (first | (with_reducible exact HR125_0.out) | (with_reducible refine Kd.C_alloc ?_ _) | (with_reducible refine Kd.C_drewN ?_ _) | (with_reducible refine Kd.C_drew ?_) | exact HR125_0.out)⟩, ⟨by repeat (first | (with_reducible exact HR127_0.out) | (with_reducible refine Kd.C_alloc ?_ _) | (with_reducible refine Kd.C_drewN ?_ _) | (with_reducible refine Kd.C_drew ?_) | exact HR127_0.out)⟩, ⟨by repeat (first | (with_reducible first | exact HB.out | apply below_alloc | apply pw_below_drewN | apply below_drew1) | exact HB.out)⟩⟩
                                                                      case rest =>
                                                                        clear HC63
                                                                        try clear c1
                                                                        try clear p1
                                                                        try clear q1
                                                                        try clear hx1
                                                                        try clear qi1
                                                                        try clear c2
                                                                        try clear p2
                                                                        try clear q2
                                                                        try clear hx2
                                                                        try clear qi2
                                                                        try clear hf2
                                                                        try clear c3
                                                                        try clear p3
                                                                        try clear q3
                                                                        try clear hx3
                                                                        try clear hf3
                                                                        try clear c4
                                                                        try clear p4
                                                                        try clear q4
                                                                        try clear hx4
                                                                        try clear c5
                                                                        try clear c6
                                                                        try clear p6
                                                                        try clear q6
                                                                        try clear hx6
                                                                        try clear c7
                                                                        try clear p7
                                                                        try clear q7
                                                                        try clear hx7
                                                                        try clear c9
                                                                        try clear c9b0
                                                                        try clear c9b1
                                                                        try clear c10
                                                                        try clear c10b0
                                                                        try clear c10b1
                                                                        try clear c11
                                                                        try clear p11
                                                                        try clear q11
                                                                        try clear hx11
                                                                        try clear qi11
                                                                        try clear c12
                                                                        try clear p12
                                                                        try clear q12
                                                                        try clear hx12
                                                                        try clear c14
                                                                        try clear c14b0
                                                                        try clear c16
                                                                        try clear c16b0
                                                                        try clear c16b1
                                                                        try clear c17
                                                                        try clear c17b0
                                                                        try clear c17b1
                                                                        try clear c18
                                                                        try clear c18b0
                                                                        try clear c19
                                                                        try clear c19b0
                                                                        try clear c20
                                                                        try clear p20
                                                                        try clear q20
                                                                        try clear hx20
                                                                        try clear hf20
                                                                        try clear c21
                                                                        try clear c21b0
                                                                        try clear c21b1
                                                                        try clear p22
                                                                        try clear q22
                                                                        try clear hx22
                                                                        try clear qi22
                                                                        try clear hf22
                                                                        try clear c25
                                                                        try clear hx25
                                                                        try clear hf25
                                                                        try clear c27
                                                                        try clear q27
                                                                        try clear c29
                                                                        try clear c29b0
                                                                        try clear c29b1
                                                                        try clear c30
                                                                        try clear c30b0
                                                                        try clear c31
                                                                        try clear c31b0
                                                                        try clear c31b1
                                                                        try clear c32
                                                                        try clear c32b0
                                                                        try clear c33
                                                                        try clear c33b0
                                                                        try clear p34
                                                                        try clear q34
                                                                        try clear hx34
                                                                        try clear hf34
                                                                        try clear c35
                                                                        try clear q35
                                                                        try clear c37
                                                                        try clear c37b0
                                                                        try clear c38
                                                                        try clear c38b0
                                                                        try clear c40
                                                                        try clear c40b0
                                                                        try clear c41
                                                                        try clear c41b0
                                                                        try clear c43
                                                                        try clear c43b0
                                                                        try clear c44
                                                                        try clear c44b0
                                                                        try clear c45
                                                                        try clear c45b0
                                                                        try clear p46
                                                                        try clear q46
                                                                        try clear hx46
                                                                        try clear c47
                                                                        try clear c47b0
                                                                        try clear p48
                                                                        try clear q48
                                                                        try clear hx48
                                                                        try clear c50
                                                                        try clear c50b0
                                                                        try clear c50b1
                                                                        try clear c52
                                                                        try clear c52b0
                                                                        try clear c53
                                                                        try clear c53b0
                                                                        try clear c54
                                                                        try clear c54b0
                                                                        try clear c55
                                                                        try clear c55b0
                                                                        try clear c56
                                                                        try clear c56b0
                                                                        try clear c57
                                                                        try clear c57b0
                                                                        try clear c59
                                                                        try clear c59b0
                                                                        try clear c60
                                                                        try clear c60b0
                                                                        try clear c64
                                                                        try clear c64b0
                                                                        try clear p64
                                                                        try clear c65
                                                                        try clear c65b0
                                                                        try clear c66
                                                                        try clear c66b0
                                                                        try clear p67
                                                                        try clear q67
                                                                        try clear hx67
                                                                        try clear c69
                                                                        try clear c69b0
                                                                        try clear c70
                                                                        try clear c70b0
                                                                        try clear p71
                                                                        try clear q71
                                                                        try clear hx71
                                                                        try clear c72
                                                                        try clear c72b0
                                                                        try clear c72b1
                                                                        try clear c74
                                                                        try clear c74b0
                                                                        try clear c75
                                                                        try clear c75b0
                                                                        try clear p76
                                                                        try clear q76
                                                                        try clear hx76
                                                                        try clear c77
                                                                        try clear c77b0
                                                                        try clear p78
                                                                        try clear q78
                                                                        try clear hx78
                                                                        try clear hx112_0
                                                                        try clear hx116_0
                                                                        try clear hx117_0
                                                                        try clear hx123_0
                                                                        try clear hx124_0
                                                                        try clear hx125_0
                                                                        try clear hx126_0
                                                                        try clear hx127_0
                                                                        try clear hx128_0
                                                                        try clear hx20_0
                                                                        try clear hx22_0
                                                                        try clear hx25_0
                                                                        try clear hx34_0
                                                                        try clear p1
                                                                        try clear p11
                                                                        try clear p112
                                                                        try clear p116
                                                                        try clear p117
                                                                        try clear p12
                                                                        try clear p123
                                                                        try clear p124
                                                                        try clear p125
                                                                        try clear p126
                                                                        try clear p127
                                                                        try clear p128
                                                                        try clear p2
                                                                        try clear p20
                                                                        try clear p22
                                                                        try clear p3
                                                                        try clear p34
                                                                        try clear p4
                                                                        try clear p46
                                                                        try clear p48
                                                                        try clear p6
                                                                        try clear p67
                                                                        try clear p71
                                                                        try clear p76
                                                                        try clear p78
                                                                        try clear q1
                                                                        try clear q11
                                                                        try clear q112
                                                                        try clear q116
                                                                        try clear q117
                                                                        try clear q12
                                                                        try clear q123
                                                                        try clear q124
                                                                        try clear q125
                                                                        try clear q126
                                                                        try clear q127
                                                                        try clear q128
                                                                        try clear q2
                                                                        try clear q20
                                                                        try clear q22
                                                                        try clear q27
                                                                        try clear q3
                                                                        try clear q34
                                                                        try clear q35
                                                                        try clear q4
                                                                        try clear q46
                                                                        try clear q48
                                                                        try clear q67
                                                                        try clear q71
                                                                        try clear q76
                                                                        try clear q78
                                                                        obtain ⟨kq, x135_62, rfl, HA, HJ62, HO_5, HR123_0, HR125_0, HR127_0, HB⟩ := hcut
                                                                        cases kq with
                                                                        | zero => exact absurd HA.out (by simp [impl_Far.j6])
                                                                        | succ kj62 =>
                                                                          have H := HA.out
                                                                          clear HA
                                                                          simp only [impl_Far.j6] at H
                                                                          by_cases c79 : x135_62 = true
                                                                          · subst c79
                                                                            have H1 : (if 0 ≤ (wrap64 (x8_4 - 2)) then (if (wrap64 (x8_4 - 2)) < (x5_5.length : Int) then (if 0 ≤ (wrap64 (x9_5 - 2)) then (if (wrap64 (x9_5 - 2)) < ((rd_L1 x5_5 (wrap64 (x8_4 - 2))).length : Int) then (if 0 ≤ x8_4 then (if x8_4 < (x5_5.length : Int) then (if 0 ≤ x9_5 then (if x9_5 < ((rd_L1 x5_5 x8_4).length : Int) then (impl_Far.l3 kj62 a0 a1 (x5_5.set (x8_4 : Int).toNat ((rd_L1 x5_5 x8_4).set (x9_5 : Int).toNat (mn ji62 (wrap64 ((rd (rd_L1 x5_5 (wrap64 (x8_4 - 2))) (wrap64 (x9_5 - 2))) + 1))))) x8_4 (wrap64 (x9_5 + 1))) else (none)) else (none)) else (none)) else (none)) else (none)) else (none)) else (none)) else (none)) = some r := by rw [if_pos rfl] at H; exact H
                                                                            clear H
                                                                            have H := H1
                                                                            clear H1
                                                                            obtain ⟨ji80, hji80⟩ : ∃ j_ : Int, (wrap64 (x8_4 - 2)) = j_ := ⟨_, rfl⟩
                                                                            replace H : (if 0 ≤ (ji80) then (if (ji80) < (x5_5.length : Int) then (if 0 ≤ (wrap64 (x9_5 - 2)) then (if (wrap64 (x9_5 - 2)) < ((rd_L1 x5_5 (ji80)).length : Int) then (if 0 ≤ x8_4 then (if x8_4 < (x5_5.length : Int) then (if 0 ≤ x9_5 then (if x9_5 < ((rd_L1 x5_5 x8_4).length : Int) then (impl_Far.l3 kj62 a0 a1 (x5_5.set (x8_4 : Int).toNat ((rd_L1 x5_5 x8_4).set (x9_5 : Int).toNat (mn ji62 (wrap64 ((rd (rd_L1 x5_5 (ji80)) (wrap64 (x9_5 - 2))) + 1))))) x8_4 (wrap64 (x9_5 + 1))) else (none)) else (none)) else (none)) else (none)) else (none)) else (none)) else (none)) else (none)) = some r := by first | (rw [hji80] at H; exact H) | (simp only [hji80] at H ⊢; exact H)
                                                                            have hji80w : (IntKind.i64.wrap (x8_4 - 2)) = ji80 := (i64_w _).trans hji80
                                                                            (try clear hji73w)
                                                                            by_cases c81 : 0 ≤ (ji80)
                                                                            · rw [if_pos c81] at H
                                                                              have c81b0 : decide (0 ≤ (ji80)) = true := decide_eq_true c81
                                                                              clear c81
                                                                              by_cases c82 : (ji80) < (x5_5.length : Int)
                                                                              · rw [if_pos c82] at H
                                                                                have c82b0 : decide ((ji80) < (x5_5.length : Int)) = true := decide_eq_true c82
                                                                                try have c82b8 := c82b0
                                                                                try simp only [hl5_2] at c82b8
                                                                                try simp only [hl5_3] at c82b8
                                                                                try simp only [hl5_4] at c82b8
                                                                                try simp only [hl5_5] at c82b8
                                                                                clear c82
                                                                                obtain ⟨ji83, hji83⟩ : ∃ j_ : Int, (wrap64 (x9_5 - 2)) = j_ := ⟨_, rfl⟩
                                                                                replace H : (if 0 ≤ (ji83) then (if (ji83) < ((rd_L1 x5_5 (ji80)).length : Int) then (if 0 ≤ x8_4 then (if x8_4 < (x5_5.length : Int) then (if 0 ≤ x9_5 then (if x9_5 < ((rd_L1 x5_5 x8_4).length : Int) then (impl_Far.l3 kj62 a0 a1 (x5_5.set (x8_4 : Int).toNat ((rd_L1 x5_5 x8_4).set (x9_5 : Int).toNat (mn ji62 (wrap64 ((rd (rd_L1 x5_5 (ji80)) (ji83)) + 1))))) x8_4 (wrap64 (x9_5 + 1))) else (none)) else (none)) else (none)) else (none)) else (none)) else (none)) = some r := by first | (rw [hji83] at H; exact H) | (simp only [hji83] at H ⊢; exact H)
                                                                                have hji83w : (IntKind.i64.wrap (x9_5 - 2)) = ji83 := (i64_w _).trans hji83
                                                                                (try clear hji68w)
                                                                                by_cases c84 : 0 ≤ (ji83)
                                                                                · rw [if_pos c84] at H
                                                                                  have c84b0 : decide (0 ≤ (ji83)) = true := decide_eq_true c84
                                                                                  clear c84
                                                                                  by_cases c85 : (ji83) < ((rd_L1 x5_5 (ji80)).length : Int)
                                                                                  · rw [if_pos c85] at H
                                                                                    have c85b0 : decide ((ji83) < ((rd_L1 x5_5 (ji80)).length : Int)) = true := decide_eq_true c85
                                                                                    try have c85b8 := c85b0
                                                                                    try simp only [hl5_2] at c85b8
                                                                                    try simp only [hl5_3] at c85b8
                                                                                    try simp only [hl5_4] at c85b8
                                                                                    try simp only [hl5_5] at c85b8
                                                                                    clear c85
                                                                                    obtain ⟨ji86, hji86⟩ : ∃ j_ : Int, (mn ji62 (wrap64 ((rd (rd_L1 x5_5 (ji80)) (ji83)) + 1))) = j_ := ⟨_, rfl⟩
                                                                                    replace H : (if 0 ≤ x8_4 then (if x8_4 < (x5_5.length : Int) then (if 0 ≤ x9_5 then (if x9_5 < ((rd_L1 x5_5 x8_4).length : Int) then (impl_Far.l3 kj62 a0 a1 (x5_5.set (x8_4 : Int).toNat ((rd_L1 x5_5 x8_4).set (x9_5 : Int).toNat (ji86))) x8_4 (wrap64 (x9_5 + 1))) else (none)) else (none)) else (none)) else (none)) = some r := by first | (rw [hji86] at H; exact H) | (simp only [hji86] at H ⊢; exact H)
                                                                                    have hji86_ : (if (wrap64 ((rd (rd_L1 x5_5 (ji80)) (ji83)) + 1)) < ji62 then (wrap64 ((rd (rd_L1 x5_5 (ji80)) (ji83)) + 1)) else ji62) = ji86 := hji86
                                                                                    by_cases c87 : 0 ≤ x8_4
                                                                                    · rw [if_pos c87] at H
                                                                                      have c87b0 : decide (0 ≤ x8_4) = true := decide_eq_true c87
                                                                                      clear c87
                                                                                      by_cases c88 : x8_4 < (x5_5.length : Int)
                                                                                      · rw [if_pos c88] at H
                                                                                        have c88b0 : decide (x8_4 < (x5_5.length : Int)) = true := decide_eq_true c88
                                                                                        try have c88b8 := c88b0
                                                                                        try simp only [hl5_2] at c88b8
                                                                                        try simp only [hl5_3] at c88b8
                                                                                        try simp only [hl5_4] at c88b8
                                                                                        try simp only [hl5_5] at c88b8
                                                                                        clear c88
                                                                                        by_cases c89 : 0 ≤ x9_5
                                                                                        · rw [if_pos c89] at H
                                                                                          have c89b0 : decide (0 ≤ x9_5) = true := decide_eq_true c89
                                                                                          clear c89
                                                                                          by_cases c90 : x9_5 < ((rd_L1 x5_5 x8_4).length : Int)
                                                                                          · rw [if_pos c90] at H
                                                                                            have c90b0 : decide (x9_5 < ((rd_L1 x5_5 x8_4).length : Int)) = true := decide_eq_true c90
                                                                                            try have c90b8 := c90b0
                                                                                            try simp only [hl5_2] at c90b8
                                                                                            try simp only [hl5_3] at c90b8
                                                                                            try simp only [hl5_4] at c90b8
                                                                                            try simp only [hl5_5] at c90b8
                                                                                            clear c90
                                                                                            obtain ⟨y132, hy132⟩ : ∃ y_ : List Int, y_ = ((rd_L1 x5_5 x8_4).set (x9_5 : Int).toNat (ji86)) := ⟨_, rfl⟩
                                                                                            replace H : (impl_Far.l3 kj62 a0 a1 (x5_5.set (x8_4 : Int).toNat y132) x8_4 (wrap64 (x9_5 + 1))) = some r := by first | (rw [hy132]; with_reducible exact H) | (have H2_ := (Option.bind_some _ _).symm.trans H; rw [hy132]; with_reducible exact H2_) | (have H2_ := (Option.bind_some _ _).symm.trans H; with_reducible exact H2_) | with_reducible exact H | (rw [hy132]; exact H) | exact H
                                                                                            have Ny132 := Aside0.mk hy132
                                                                                            clear hy132
                                                                                            obtain ⟨y134, hy134⟩ : ∃ y_ : List (List Int), y_ = (x5_5.set (x8_4 : Int).toNat y132) := ⟨_, rfl⟩
                                                                                            replace H : (impl_Far.l3 kj62 a0 a1 y134 x8_4 (wrap64 (x9_5 + 1))) = some r := by first | (rw [hy134]; with_reducible exact H) | (have H2_ := (Option.bind_some _ _).symm.trans H; rw [hy134]; with_reducible exact H2_) | (have H2_ := (Option.bind_some _ _).symm.trans H; with_reducible exact H2_) | with_reducible exact H | (rw [hy134]; exact H) | exact H
                                                                                            have Ny134 := Aside0.mk hy134
                                                                                            clear hy134
                                                                                            have H' := Aside0.mk H
                                                                                            clear H
                                                                                            have p129 : 0 ≤ ((ji80) : Int) := of_decide_eq_true (by first | (with_reducible assumption) | assumption)
                                                                                            have q129 : (ji80) < (x5_5.length : Int) := of_decide_eq_true (by first | (with_reducible assumption) | assumption)
                                                                                            obtain ⟨ad129, A129_0, c129_0, e129, hx129_0, hl129_0, hi129_0⟩ := at_L1 (Kd.S_reads' HO_5.out).2.2 (ji80) p129 q129
                                                                                            obtain rfl : ad116 = ad129 := (by injection e129)
                                                                                            obtain ⟨ce129, hce129, hMe129, hcc129⟩ := Kd.S_get HO_5.out [] (ji80) p129 (by first | exact q129 | exact of_decide_eq_true (by first | (with_reducible assumption) | assumption) | (have e_ := (Kd.S_reads' HO_5.out).1; omega))
                                                                                            obtain ⟨ve129_0, rfl, ge129_0⟩ := hMe129
                                                                                            have hv129_0 := hcc129 0 _ rfl
                                                                                            rw [Nat.add_zero, show ((Kd.slice 3 (Kd.int .i64))).sz = 1 from rfl, Nat.mul_one] at hv129_0
                                                                                            replace hv129_0 := Option.some.inj (hv129_0.symm.trans hx129_0)
                                                                                            rw [hv129_0] at ge129_0
                                                                                            have HL129_0 := Aside0.mk (show Kd.R (Kd.int .i64) 3 _ _ _ _ (rd_L1 x5_5 (ji80)) from ge129_0)
                                                                                            clear hv129_0 ge129_0
                                                                                            have HX129_0 := Aside0.mk hx129_0
                                                                                            clear hcc129 hce129
                                                                                            have HR129_0 := Aside0.mk hi129_0
                                                                                            have HC129_0 := Aside0.mk hl129_0
                                                                                            clear hi129_0 hl129_0
                                                                                            replace p129 := eq_true p129
                                                                                            replace q129 := eq_true q129
                                                                                            have p130 : 0 ≤ ((ji83) : Int) := of_decide_eq_true (by first | (with_reducible assumption) | assumption)
                                                                                            have q130 : (ji83) < ((rd_L1 x5_5 (ji80)).length : Int) := of_decide_eq_true (by first | (with_reducible assumption) | assumption)
                                                                                            obtain ⟨ad130, e130, hx130_0⟩ := Kd.at_int (by repeat (first | (with_reducible exact HR129_0.out) | (with_reducible refine Kd.C_alloc ?_ _) | (with_reducible refine Kd.C_drewN ?_ _) | (with_reducible refine Kd.C_drew ?_) | exact HR129_0.out)) (ji83) p130 q130
                                                                                            cases e130
                                                                                            replace p130 := eq_true p130
                                                                                            replace q130 := eq_true q130
                                                                                            have p131 : 0 ≤ (x8_4 : Int) := of_decide_eq_true (by first | (with_reducible assumption) | assumption)
                                                                                            have q131 : x8_4 < (x5_5.length : Int) := of_decide_eq_true (by first | (with_reducible assumption) | assumption)
                                                                                            obtain ⟨ad131, A131_0, c131_0, e131, hx131_0, hl131_0, hi131_0⟩ := at_L1 (Kd.S_reads' HO_5.out).2.2 x8_4 p131 q131
                                                                                            obtain rfl : ad116 = ad131 := (by injection e131)
                                                                                            obtain ⟨ce131, hce131, hMe131, hcc131⟩ := Kd.S_get HO_5.out [] x8_4 p131 (by first | exact q131 | exact of_decide_eq_true (by first | (with_reducible assumption) | assumption) | (have e_ := (Kd.S_reads' HO_5.out).1; omega))
                                                                                            obtain ⟨ve131_0, rfl, ge131_0⟩ := hMe131
                                                                                            have hv131_0 := hcc131 0 _ rfl
                                                                                            rw [Nat.add_zero, show ((Kd.slice 3 (Kd.int .i64))).sz = 1 from rfl, Nat.mul_one] at hv131_0
                                                                                            replace hv131_0 := Option.some.inj (hv131_0.symm.trans hx131_0)
                                                                                            rw [hv131_0] at ge131_0
                                                                                            have HL131_0 := Aside0.mk (show Kd.R (Kd.int .i64) 3 _ _ _ _ (rd_L1 x5_5 x8_4) from ge131_0)
                                                                                            clear hv131_0 ge131_0
                                                                                            have HX131_0 := Aside0.mk hx131_0
                                                                                            clear hcc131 hce131
                                                                                            have HR131_0 := Aside0.mk hi131_0
                                                                                            have HC131_0 := Aside0.mk hl131_0
                                                                                            clear hi131_0 hl131_0
                                                                                            replace p131 := eq_true p131
                                                                                            replace q131 := eq_true q131
                                                                                            have p91 : 0 ≤ (x9_5 : Int) := of_decide_eq_true (by first | (with_reducible assumption) | assumption)
                                                                                            have q91 : (x9_5 : Int) < (((rd_L1 x5_5 x8_4).length : Int) : Int) := of_decide_eq_true (by first | (with_reducible assumption) | assumption)
                                                                                            obtain ⟨go91, co91, eo91, gb91, gl91, cl91, HG91⟩ := Kd.R_form HL131_0.out (by omega)
                                                                                            (first | cases eo91 | (injection eo91 with ea_ en_ ec_; (first | subst ea_ | (injection ea_ with ea_; subst ea_)); subst ec_; clear en_))
                                                                                            have GB91 := Aside0.mk gb91
                                                                                            have GG91 := Aside0.mk HG91
                                                                                            clear gb91 gl91 HG91
                                                                                            obtain ⟨hx91_0, hf91_0⟩ := Kd.R_celln 0 HL131_0.out (x9_5 : Int) p91 q91
                                                                                            replace p91 := eq_true p91
                                                                                            replace q91 := eq_true q91
                                                                                            have hq92 : (x8_4 : Int) < (x5_5.length : Int) := (by have h_ : (x8_4 : Int) < ((x5_5.length : Int) : Int) := of_decide_eq_true (by first | (with_reducible assumption) | assumption); first | exact h_ | (have e_ := (Kd.S_reads' HO_5.out).1; omega) | simpa only [List.length_set, List.length_set] using h_)
                                                                                            obtain ⟨oki92, ce92, hcl92, hM92, hcc92, hok92, hbk92⟩ := Kd.S_borrow HO_5.out [] (x8_4 : Int) (of_decide_eq_true (by first | (with_reducible assumption) | assumption)) hq92
                                                                                            obtain ⟨ve92_0, rfl, ge92_0⟩ := hM92
                                                                                            have hv92 := hcc92 0 _ rfl
                                                                                            rw [Nat.add_zero, show ((Kd.slice 3 (Kd.int .i64))).sz = 1 from rfl, Nat.mul_one] at hv92
                                                                                            replace hv92 := Option.some.inj (hv92.symm.trans HX131_0.out)
                                                                                            subst hv92
                                                                                            clear hcc92 hcl92
                                                                                            replace ge92_0 := (show Kd.R (Kd.int .i64) 3 _ _ _ _ (rd_L1 x5_5 x8_4) from ge92_0)
                                                                                            have HP92 := Kd.R_putg ge92_0 (x9_5 : Int) ji86
                                                                                            go_wp2_with (first | ((with_reducible refine gate_store (t := 3) (p := 154) rfl ?_); (try (rw [drewN_self wc]; generalize hq_ : World.drewN wc _ = wc; have n0_ := Aside0.mk (Kd.S_at hq_ HO_5.out); have n1_ := Aside0.mk (Kd.R_at hq_ HL141.out); have n2_ := Aside0.mk (below_at hq_ HB.out); clear hq_ HO_5 HL141 HB; have HO_5 := n0_; have HL141 := n1_; have HB := n2_; clear n0_ n1_ n2_; (try (have hq92 : (x8_4 : Int) < (x5_5.length : Int) := (by have h_ : (x8_4 : Int) < ((x5_5.length : Int) : Int) := of_decide_eq_true (by first | (with_reducible assumption) | assumption); first | exact h_ | (have e_ := (Kd.S_reads' HO_5.out).1; omega) | simpa only [List.length_set, List.length_set] using h_))); (try (obtain ⟨oki92, ce92, hcl92, hM92, hcc92, hok92, hbk92⟩ := Kd.S_borrow HO_5.out [] (x8_4 : Int) (of_decide_eq_true (by first | (with_reducible assumption) | assumption)) hq92)); (try (obtain ⟨ve92_0, rfl, ge92_0⟩ := hM92)); (try (have hv92 := hcc92 0 _ rfl)); (try (rw [Nat.add_zero, show ((Kd.slice 3 (Kd.int .i64))).sz = 1 from rfl, Nat.mul_one] at hv92)); (try (replace hv92 := Option.some.inj (hv92.symm.trans HX131_0.out))); (try (subst hv92)); (try (clear hcc92 hcl92)); (try (replace ge92_0 := (show Kd.R (Kd.int .i64) 3 _ _ _ _ (rd_L1 x5_5 x8_4) from ge92_0))); (try (have HP92 := Kd.R_putg ge92_0 (x9_5 : Int) ji86)))); refine store_event (t := 3) (p := 154) (v := ?vo_w93) (w1 := (wc.setCell ⟨go91, (x9_5 : Int).toNat, none⟩ (.int .i64 ji86))) ?hg ?ho ?hn ?hr ?_; (case ho => rfl); (case hg => rfl); (case hn => rfl); (case hr => first | (go_simp; done) | (go_simp; rfl)); intro w93 hw; have hg : wc.grownBy w93 (some go91) := (by rw [hw]; exact HP92.2); have hz_ : Kd.R (Kd.int .i64) 3 w93 w.heap.size oki92 (.slice (some ⟨go91, 0, none⟩) (rd_L1 x5_5 x8_4).length c131_0) y132 := (by rw [hw, Ny132.out]; exact HP92.1); have hp_ : Kd.S (Kd.slice 3 (Kd.int .i64)) 71 w93 w.heap.size (fun _ => True) (.slice (some ad116) x5_5.length co13) y134 := (by rw [Ny134.out]; exact hbk92 hg (fun k_ e_ => by injection e_ with e_; subst e_; exact ge92_0.1 _ rfl) (Kd.M_row hz_)); have hm_ := Kd.R_mono hz_ hok92; clear HP92 hbk92; have n0_ := Aside0.mk (hp_); have n1_ := Aside0.mk ((by rw [hw]; exact below_set (HB.out) GB91.out : Below w.heap.size w w93)); have n2_ := Aside0.mk (hm_); have n3_ := Aside0.mk ((Kd.R_reads' hm_).2.1); clear HO_5; clear HB; clear HL129_0; clear HL131_0; have HO_5 := n0_; have HB := n1_; have HL141 := n2_; have HC133 := n3_; clear n0_ n1_ n2_ n3_; clear hg hw hp_ hz_ hm_ hok92))
                                                                                            repeat (go_quiet (first | ((with_reducible refine gate_store (t := 3) (p := 154) rfl ?_); (try (rw [drewN_self wc]; generalize hq_ : World.drewN wc _ = wc; have n0_ := Aside0.mk (Kd.S_at hq_ HO_5.out); have n1_ := Aside0.mk (Kd.R_at hq_ HL141.out); have n2_ := Aside0.mk (below_at hq_ HB.out); clear hq_ HO_5 HL141 HB; have HO_5 := n0_; have HL141 := n1_; have HB := n2_; clear n0_ n1_ n2_; (try (have hq92 : (x8_4 : Int) < (x5_5.length : Int) := (by have h_ : (x8_4 : Int) < ((x5_5.length : Int) : Int) := of_decide_eq_true (by first | (with_reducible assumption) | assumption); first | exact h_ | (have e_ := (Kd.S_reads' HO_5.out).1; omega) | simpa only [List.length_set, List.length_set] using h_))); (try (obtain ⟨oki92, ce92, hcl92, hM92, hcc92, hok92, hbk92⟩ := Kd.S_borrow HO_5.out [] (x8_4 : Int) (of_decide_eq_true (by first | (with_reducible assumption) | assumption)) hq92)); (try (obtain ⟨ve92_0, rfl, ge92_0⟩ := hM92)); (try (have hv92 := hcc92 0 _ rfl)); (try (rw [Nat.add_zero, show ((Kd.slice 3 (Kd.int .i64))).sz = 1 from rfl, Nat.mul_one] at hv92)); (try (replace hv92 := Option.some.inj (hv92.symm.trans HX131_0.out))); (try (subst hv92)); (try (clear hcc92 hcl92)); (try (replace ge92_0 := (show Kd.R (Kd.int .i64) 3 _ _ _ _ (rd_L1 x5_5 x8_4) from ge92_0))); (try (have HP92 := Kd.R_putg ge92_0 (x9_5 : Int) ji86)))); refine store_event (t := 3) (p := 154) (v := ?vo_w93) (w1 := (wc.setCell ⟨go91, (x9_5 : Int).toNat, none⟩ (.int .i64 ji86))) ?hg ?ho ?hn ?hr ?_; (case ho => rfl); (case hg => rfl); (case hn => rfl); (case hr => first | (go_simp; done) | (go_simp; rfl)); intro w93 hw; have hg : wc.grownBy w93 (some go91) := (by rw [hw]; exact HP92.2); have hz_ : Kd.R (Kd.int .i64) 3 w93 w.heap.size oki92 (.slice (some ⟨go91, 0, none⟩) (rd_L1 x5_5 x8_4).length c131_0) y132 := (by rw [hw, Ny132.out]; exact HP92.1); have hp_ : Kd.S (Kd.slice 3 (Kd.int .i64)) 71 w93 w.heap.size (fun _ => True) (.slice (some ad116) x5_5.length co13) y134 := (by rw [Ny134.out]; exact hbk92 hg (fun k_ e_ => by injection e_ with e_; subst e_; exact ge92_0.1 _ rfl) (Kd.M_row hz_)); have hm_ := Kd.R_mono hz_ hok92; clear HP92 hbk92; have n0_ := Aside0.mk (hp_); have n1_ := Aside0.mk ((by rw [hw]; exact below_set (HB.out) GB91.out : Below w.heap.size w w93)); have n2_ := Aside0.mk (hm_); have n3_ := Aside0.mk ((Kd.R_reads' hm_).2.1); clear HO_5; clear HB; clear HL129_0; clear HL131_0; have HO_5 := n0_; have HB := n1_; have HL141 := n2_; have HC133 := n3_; clear n0_ n1_ n2_ n3_; clear hg hw hp_ hz_ hm_ hok92)); try go_wp2_with (first | ((with_reducible refine gate_store (t := 3) (p := 154) rfl ?_); (try (rw [drewN_self wc]; generalize hq_ : World.drewN wc _ = wc; have n0_ := Aside0.mk (Kd.S_at hq_ HO_5.out); have n1_ := Aside0.mk (Kd.R_at hq_ HL141.out); have n2_ := Aside0.mk (below_at hq_ HB.out); clear hq_ HO_5 HL141 HB; have HO_5 := n0_; have HL141 := n1_; have HB := n2_; clear n0_ n1_ n2_; (try (have hq92 : (x8_4 : Int) < (x5_5.length : Int) := (by have h_ : (x8_4 : Int) < ((x5_5.length : Int) : Int) := of_decide_eq_true (by first | (with_reducible assumption) | assumption); first | exact h_ | (have e_ := (Kd.S_reads' HO_5.out).1; omega) | simpa only [List.length_set, List.length_set] using h_))); (try (obtain ⟨oki92, ce92, hcl92, hM92, hcc92, hok92, hbk92⟩ := Kd.S_borrow HO_5.out [] (x8_4 : Int) (of_decide_eq_true (by first | (with_reducible assumption) | assumption)) hq92)); (try (obtain ⟨ve92_0, rfl, ge92_0⟩ := hM92)); (try (have hv92 := hcc92 0 _ rfl)); (try (rw [Nat.add_zero, show ((Kd.slice 3 (Kd.int .i64))).sz = 1 from rfl, Nat.mul_one] at hv92)); (try (replace hv92 := Option.some.inj (hv92.symm.trans HX131_0.out))); (try (subst hv92)); (try (clear hcc92 hcl92)); (try (replace ge92_0 := (show Kd.R (Kd.int .i64) 3 _ _ _ _ (rd_L1 x5_5 x8_4) from ge92_0))); (try (have HP92 := Kd.R_putg ge92_0 (x9_5 : Int) ji86)))); refine store_event (t := 3) (p := 154) (v := ?vo_w93) (w1 := (wc.setCell ⟨go91, (x9_5 : Int).toNat, none⟩ (.int .i64 ji86))) ?hg ?ho ?hn ?hr ?_; (case ho => rfl); (case hg => rfl); (case hn => rfl); (case hr => first | (go_simp; done) | (go_simp; rfl)); intro w93 hw; have hg : wc.grownBy w93 (some go91) := (by rw [hw]; exact HP92.2); have hz_ : Kd.R (Kd.int .i64) 3 w93 w.heap.size oki92 (.slice (some ⟨go91, 0, none⟩) (rd_L1 x5_5 x8_4).length c131_0) y132 := (by rw [hw, Ny132.out]; exact HP92.1); have hp_ : Kd.S (Kd.slice 3 (Kd.int .i64)) 71 w93 w.heap.size (fun _ => True) (.slice (some ad116) x5_5.length co13) y134 := (by rw [Ny134.out]; exact hbk92 hg (fun k_ e_ => by injection e_ with e_; subst e_; exact ge92_0.1 _ rfl) (Kd.M_row hz_)); have hm_ := Kd.R_mono hz_ hok92; clear HP92 hbk92; have n0_ := Aside0.mk (hp_); have n1_ := Aside0.mk ((by rw [hw]; exact below_set (HB.out) GB91.out : Below w.heap.size w w93)); have n2_ := Aside0.mk (hm_); have n3_ := Aside0.mk ((Kd.R_reads' hm_).2.1); clear HO_5; clear HB; clear HL129_0; clear HL131_0; have HO_5 := n0_; have HB := n1_; have HL141 := n2_; have HC133 := n3_; clear n0_ n1_ n2_ n3_; clear hg hw hp_ hz_ hm_ hok92)))
                                                                                            (try simp only [← hl5_5])
                                                                                            go_roundg kj62
                                                                                            case measure => have := HJ2.out; have := HK2.out; have := HK3.out; have := HK4.out; have := HK5.out; have := HJ48.out; have := HJ62.out; omega
                                                                                            case rel => exact ⟨(y134), (wrap64 (x9_5 + 1)), (by first | rfl | (simp; done) | (simp [*]; done)), H', ⟨by have := HJ2.out; have := HK2.out; have := HK3.out; have := HK4.out; have := HK5.out; have := HJ48.out; have := HJ62.out; omega⟩, ⟨by (try simp only [hl5_2]); (try simp only [hl5_3]); (try simp only [hl5_4]); (try simp only [hl5_5]); (with_reducible repeat (first | apply Kd.S_alloc | apply Kd.S_drewN | apply Kd.S_drew)); exact HO_5.out⟩, ⟨by repeat (first | (with_reducible first | exact HB.out | apply below_alloc | apply pw_below_drewN | apply below_drew1) | exact HB.out)⟩⟩
                                                                                          · rw [if_neg c90] at H
                                                                                            exact absurd H (by simp)
                                                                                        · rw [if_neg c89] at H
                                                                                          exact absurd H (by simp)
                                                                                      · rw [if_neg c88] at H
                                                                                        exact absurd H (by simp)
                                                                                    · rw [if_neg c87] at H
                                                                                      exact absurd H (by simp)
                                                                                  · rw [if_neg c85] at H
                                                                                    exact absurd H (by simp)
                                                                                · rw [if_neg c84] at H
                                                                                  exact absurd H (by simp)
                                                                              · rw [if_neg c82] at H
                                                                                exact absurd H (by simp)
                                                                            · rw [if_neg c81] at H
                                                                              exact absurd H (by simp)
                                                                          · replace c79 := Bool.eq_false_iff.mpr c79
                                                                            subst c79
                                                                            have H1 : (if 0 ≤ x8_4 then (if x8_4 < (x5_5.length : Int) then (if 0 ≤ x9_5 then (if x9_5 < ((rd_L1 x5_5 x8_4).length : Int) then (impl_Far.l3 kj62 a0 a1 (x5_5.set (x8_4 : Int).toNat ((rd_L1 x5_5 x8_4).set (x9_5 : Int).toNat ji62)) x8_4 (wrap64 (x9_5 + 1))) else (none)) else (none)) else (none)) else (none)) = some r := by rw [if_neg (show ¬ (false = true) by decide)] at H; exact H
                                                                            clear H
                                                                            have H := H1
                                                                            clear H1
                                                                            by_cases c94 : 0 ≤ x8_4
                                                                            · rw [if_pos c94] at H
                                                                              have c94b0 : decide (0 ≤ x8_4) = true := decide_eq_true c94
                                                                              clear c94
                                                                              by_cases c95 : x8_4 < (x5_5.length : Int)
                                                                              · rw [if_pos c95] at H
                                                                                have c95b0 : decide (x8_4 < (x5_5.length : Int)) = true := decide_eq_true c95
                                                                                try have c95b8 := c95b0
                                                                                try simp only [hl5_2] at c95b8
                                                                                try simp only [hl5_3] at c95b8
                                                                                try simp only [hl5_4] at c95b8
                                                                                try simp only [hl5_5] at c95b8
                                                                                clear c95
                                                                                by_cases c96 : 0 ≤ x9_5
                                                                                · rw [if_pos c96] at H
                                                                                  have c96b0 : decide (0 ≤ x9_5) = true := decide_eq_true c96
                                                                                  clear c96
                                                                                  by_cases c97 : x9_5 < ((rd_L1 x5_5 x8_4).length : Int)
                                                                                  · rw [if_pos c97] at H
                                                                                    have c97b0 : decide (x9_5 < ((rd_L1 x5_5 x8_4).length : Int)) = true := decide_eq_true c97
                                                                                    try have c97b8 := c97b0
                                                                                    try simp only [hl5_2] at c97b8
                                                                                    try simp only [hl5_3] at c97b8
                                                                                    try simp only [hl5_4] at c97b8
                                                                                    try simp only [hl5_5] at c97b8
                                                                                    clear c97
                                                                                    obtain ⟨y136, hy136⟩ : ∃ y_ : List Int, y_ = ((rd_L1 x5_5 x8_4).set (x9_5 : Int).toNat ji62) := ⟨_, rfl⟩
                                                                                    replace H : (impl_Far.l3 kj62 a0 a1 (x5_5.set (x8_4 : Int).toNat y136) x8_4 (wrap64 (x9_5 + 1))) = some r := by first | (rw [hy136]; with_reducible exact H) | (have H2_ := (Option.bind_some _ _).symm.trans H; rw [hy136]; with_reducible exact H2_) | (have H2_ := (Option.bind_some _ _).symm.trans H; with_reducible exact H2_) | with_reducible exact H | (rw [hy136]; exact H) | exact H
                                                                                    have Ny136 := Aside0.mk hy136
                                                                                    clear hy136
                                                                                    obtain ⟨y138, hy138⟩ : ∃ y_ : List (List Int), y_ = (x5_5.set (x8_4 : Int).toNat y136) := ⟨_, rfl⟩
                                                                                    replace H : (impl_Far.l3 kj62 a0 a1 y138 x8_4 (wrap64 (x9_5 + 1))) = some r := by first | (rw [hy138]; with_reducible exact H) | (have H2_ := (Option.bind_some _ _).symm.trans H; rw [hy138]; with_reducible exact H2_) | (have H2_ := (Option.bind_some _ _).symm.trans H; with_reducible exact H2_) | with_reducible exact H | (rw [hy138]; exact H) | exact H
                                                                                    have Ny138 := Aside0.mk hy138
                                                                                    clear hy138
                                                                                    have H' := Aside0.mk H
                                                                                    clear H
                                                                                    have p135 : 0 ≤ (x8_4 : Int) := of_decide_eq_true (by first | (with_reducible assumption) | assumption)
                                                                                    have q135 : x8_4 < (x5_5.length : Int) := of_decide_eq_true (by first | (with_reducible assumption) | assumption)
                                                                                    obtain ⟨ad135, A135_0, c135_0, e135, hx135_0, hl135_0, hi135_0⟩ := at_L1 (Kd.S_reads' HO_5.out).2.2 x8_4 p135 q135
                                                                                    obtain rfl : ad116 = ad135 := (by injection e135)
                                                                                    obtain ⟨ce135, hce135, hMe135, hcc135⟩ := Kd.S_get HO_5.out [] x8_4 p135 (by first | exact q135 | exact of_decide_eq_true (by first | (with_reducible assumption) | assumption) | (have e_ := (Kd.S_reads' HO_5.out).1; omega))
                                                                                    obtain ⟨ve135_0, rfl, ge135_0⟩ := hMe135
                                                                                    have hv135_0 := hcc135 0 _ rfl
                                                                                    rw [Nat.add_zero, show ((Kd.slice 3 (Kd.int .i64))).sz = 1 from rfl, Nat.mul_one] at hv135_0
                                                                                    replace hv135_0 := Option.some.inj (hv135_0.symm.trans hx135_0)
                                                                                    rw [hv135_0] at ge135_0
                                                                                    have HL135_0 := Aside0.mk (show Kd.R (Kd.int .i64) 3 _ _ _ _ (rd_L1 x5_5 x8_4) from ge135_0)
                                                                                    clear hv135_0 ge135_0
                                                                                    have HX135_0 := Aside0.mk hx135_0
                                                                                    clear hcc135 hce135
                                                                                    have HR135_0 := Aside0.mk hi135_0
                                                                                    have HC135_0 := Aside0.mk hl135_0
                                                                                    clear hi135_0 hl135_0
                                                                                    replace p135 := eq_true p135
                                                                                    replace q135 := eq_true q135
                                                                                    have p98 : 0 ≤ (x9_5 : Int) := of_decide_eq_true (by first | (with_reducible assumption) | assumption)
                                                                                    have q98 : (x9_5 : Int) < (((rd_L1 x5_5 x8_4).length : Int) : Int) := of_decide_eq_true (by first | (with_reducible assumption) | assumption)
                                                                                    obtain ⟨go98, co98, eo98, gb98, gl98, cl98, HG98⟩ := Kd.R_form HL135_0.out (by omega)
                                                                                    (first | cases eo98 | (injection eo98 with ea_ en_ ec_; (first | subst ea_ | (injection ea_ with ea_; subst ea_)); subst ec_; clear en_))
                                                                                    have GB98 := Aside0.mk gb98
                                                                                    have GG98 := Aside0.mk HG98
                                                                                    clear gb98 gl98 HG98
                                                                                    obtain ⟨hx98_0, hf98_0⟩ := Kd.R_celln 0 HL135_0.out (x9_5 : Int) p98 q98
                                                                                    replace p98 := eq_true p98
                                                                                    replace q98 := eq_true q98
                                                                                    have hq99 : (x8_4 : Int) < (x5_5.length : Int) := (by have h_ : (x8_4 : Int) < ((x5_5.length : Int) : Int) := of_decide_eq_true (by first | (with_reducible assumption) | assumption); first | exact h_ | (have e_ := (Kd.S_reads' HO_5.out).1; omega) | simpa only [List.length_set, List.length_set] using h_)
                                                                                    obtain ⟨oki99, ce99, hcl99, hM99, hcc99, hok99, hbk99⟩ := Kd.S_borrow HO_5.out [] (x8_4 : Int) (of_decide_eq_true (by first | (with_reducible assumption) | assumption)) hq99
                                                                                    obtain ⟨ve99_0, rfl, ge99_0⟩ := hM99
                                                                                    have hv99 := hcc99 0 _ rfl
                                                                                    rw [Nat.add_zero, show ((Kd.slice 3 (Kd.int .i64))).sz = 1 from rfl, Nat.mul_one] at hv99
                                                                                    replace hv99 := Option.some.inj (hv99.symm.trans HX135_0.out)
                                                                                    subst hv99
                                                                                    clear hcc99 hcl99
                                                                                    replace ge99_0 := (show Kd.R (Kd.int .i64) 3 _ _ _ _ (rd_L1 x5_5 x8_4) from ge99_0)
                                                                                    have HP99 := Kd.R_putg ge99_0 (x9_5 : Int) ji62
                                                                                    go_wp2_with (first | ((with_reducible refine gate_store (t := 3) (p := 154) rfl ?_); (try (rw [drewN_self wc]; generalize hq_ : World.drewN wc _ = wc; have n0_ := Aside0.mk (Kd.S_at hq_ HO_5.out); have n1_ := Aside0.mk (Kd.R_at hq_ HL142.out); have n2_ := Aside0.mk (below_at hq_ HB.out); clear hq_ HO_5 HL142 HB; have HO_5 := n0_; have HL142 := n1_; have HB := n2_; clear n0_ n1_ n2_; (try (have hq99 : (x8_4 : Int) < (x5_5.length : Int) := (by have h_ : (x8_4 : Int) < ((x5_5.length : Int) : Int) := of_decide_eq_true (by first | (with_reducible assumption) | assumption); first | exact h_ | (have e_ := (Kd.S_reads' HO_5.out).1; omega) | simpa only [List.length_set, List.length_set] using h_))); (try (obtain ⟨oki99, ce99, hcl99, hM99, hcc99, hok99, hbk99⟩ := Kd.S_borrow HO_5.out [] (x8_4 : Int) (of_decide_eq_true (by first | (with_reducible assumption) | assumption)) hq99)); (try (obtain ⟨ve99_0, rfl, ge99_0⟩ := hM99)); (try (have hv99 := hcc99 0 _ rfl)); (try (rw [Nat.add_zero, show ((Kd.slice 3 (Kd.int .i64))).sz = 1 from rfl, Nat.mul_one] at hv99)); (try (replace hv99 := Option.some.inj (hv99.symm.trans HX135_0.out))); (try (subst hv99)); (try (clear hcc99 hcl99)); (try (replace ge99_0 := (show Kd.R (Kd.int .i64) 3 _ _ _ _ (rd_L1 x5_5 x8_4) from ge99_0))); (try (have HP99 := Kd.R_putg ge99_0 (x9_5 : Int) ji62)))); refine store_event (t := 3) (p := 154) (v := ?vo_w100) (w1 := (wc.setCell ⟨go98, (x9_5 : Int).toNat, none⟩ (.int .i64 ji62))) ?hg ?ho ?hn ?hr ?_; (case ho => rfl); (case hg => rfl); (case hn => rfl); (case hr => first | (go_simp; done) | (go_simp; rfl)); intro w100 hw; have hg : wc.grownBy w100 (some go98) := (by rw [hw]; exact HP99.2); have hz_ : Kd.R (Kd.int .i64) 3 w100 w.heap.size oki99 (.slice (some ⟨go98, 0, none⟩) (rd_L1 x5_5 x8_4).length c135_0) y136 := (by rw [hw, Ny136.out]; exact HP99.1); have hp_ : Kd.S (Kd.slice 3 (Kd.int .i64)) 71 w100 w.heap.size (fun _ => True) (.slice (some ad116) x5_5.length co13) y138 := (by rw [Ny138.out]; exact hbk99 hg (fun k_ e_ => by injection e_ with e_; subst e_; exact ge99_0.1 _ rfl) (Kd.M_row hz_)); have hm_ := Kd.R_mono hz_ hok99; clear HP99 hbk99; have n0_ := Aside0.mk (hp_); have n1_ := Aside0.mk ((by rw [hw]; exact below_set (HB.out) GB98.out : Below w.heap.size w w100)); have n2_ := Aside0.mk (hm_); have n3_ := Aside0.mk ((Kd.R_reads' hm_).2.1); clear HO_5; clear HB; clear HL135_0; have HO_5 := n0_; have HB := n1_; have HL142 := n2_; have HC137 := n3_; clear n0_ n1_ n2_ n3_; clear hg hw hp_ hz_ hm_ hok99))
                                                                                    repeat (go_quiet (first | ((with_reducible refine gate_store (t := 3) (p := 154) rfl ?_); (try (rw [drewN_self wc]; generalize hq_ : World.drewN wc _ = wc; have n0_ := Aside0.mk (Kd.S_at hq_ HO_5.out); have n1_ := Aside0.mk (Kd.R_at hq_ HL142.out); have n2_ := Aside0.mk (below_at hq_ HB.out); clear hq_ HO_5 HL142 HB; have HO_5 := n0_; have HL142 := n1_; have HB := n2_; clear n0_ n1_ n2_; (try (have hq99 : (x8_4 : Int) < (x5_5.length : Int) := (by have h_ : (x8_4 : Int) < ((x5_5.length : Int) : Int) := of_decide_eq_true (by first | (with_reducible assumption) | assumption); first | exact h_ | (have e_ := (Kd.S_reads' HO_5.out).1; omega) | simpa only [List.length_set, List.length_set] using h_))); (try (obtain ⟨oki99, ce99, hcl99, hM99, hcc99, hok99, hbk99⟩ := Kd.S_borrow HO_5.out [] (x8_4 : Int) (of_decide_eq_true (by first | (with_reducible assumption) | assumption)) hq99)); (try (obtain ⟨ve99_0, rfl, ge99_0⟩ := hM99)); (try (have hv99 := hcc99 0 _ rfl)); (try (rw [Nat.add_zero, show ((Kd.slice 3 (Kd.int .i64))).sz = 1 from rfl, Nat.mul_one] at hv99)); (try (replace hv99 := Option.some.inj (hv99.symm.trans HX135_0.out))); (try (subst hv99)); (try (clear hcc99 hcl99)); (try (replace ge99_0 := (show Kd.R (Kd.int .i64) 3 _ _ _ _ (rd_L1 x5_5 x8_4) from ge99_0))); (try (have HP99 := Kd.R_putg ge99_0 (x9_5 : Int) ji62)))); refine store_event (t := 3) (p := 154) (v := ?vo_w100) (w1 := (wc.setCell ⟨go98, (x9_5 : Int).toNat, none⟩ (.int .i64 ji62))) ?hg ?ho ?hn ?hr ?_; (case ho => rfl); (case hg => rfl); (case hn => rfl); (case hr => first | (go_simp; done) | (go_simp; rfl)); intro w100 hw; have hg : wc.grownBy w100 (some go98) := (by rw [hw]; exact HP99.2); have hz_ : Kd.R (Kd.int .i64) 3 w100 w.heap.size oki99 (.slice (some ⟨go98, 0, none⟩) (rd_L1 x5_5 x8_4).length c135_0) y136 := (by rw [hw, Ny136.out]; exact HP99.1); have hp_ : Kd.S (Kd.slice 3 (Kd.int .i64)) 71 w100 w.heap.size (fun _ => True) (.slice (some ad116) x5_5.length co13) y138 := (by rw [Ny138.out]; exact hbk99 hg (fun k_ e_ => by injection e_ with e_; subst e_; exact ge99_0.1 _ rfl) (Kd.M_row hz_)); have hm_ := Kd.R_mono hz_ hok99; clear HP99 hbk99; have n0_ := Aside0.mk (hp_); have n1_ := Aside0.mk ((by rw [hw]; exact below_set (HB.out) GB98.out : Below w.heap.size w w100)); have n2_ := Aside0.mk (hm_); have n3_ := Aside0.mk ((Kd.R_reads' hm_).2.1); clear HO_5; clear HB; clear HL135_0; have HO_5 := n0_; have HB := n1_; have HL142 := n2_; have HC137 := n3_; clear n0_ n1_ n2_ n3_; clear hg hw hp_ hz_ hm_ hok99)); try go_wp2_with (first | ((with_reducible refine gate_store (t := 3) (p := 154) rfl ?_); (try (rw [drewN_self wc]; generalize hq_ : World.drewN wc _ = wc; have n0_ := Aside0.mk (Kd.S_at hq_ HO_5.out); have n1_ := Aside0.mk (Kd.R_at hq_ HL142.out); have n2_ := Aside0.mk (below_at hq_ HB.out); clear hq_ HO_5 HL142 HB; have HO_5 := n0_; have HL142 := n1_; have HB := n2_; clear n0_ n1_ n2_; (try (have hq99 : (x8_4 : Int) < (x5_5.length : Int) := (by have h_ : (x8_4 : Int) < ((x5_5.length : Int) : Int) := of_decide_eq_true (by first | (with_reducible assumption) | assumption); first | exact h_ | (have e_ := (Kd.S_reads' HO_5.out).1; omega) | simpa only [List.length_set, List.length_set] using h_))); (try (obtain ⟨oki99, ce99, hcl99, hM99, hcc99, hok99, hbk99⟩ := Kd.S_borrow HO_5.out [] (x8_4 : Int) (of_decide_eq_true (by first | (with_reducible assumption) | assumption)) hq99)); (try (obtain ⟨ve99_0, rfl, ge99_0⟩ := hM99)); (try (have hv99 := hcc99 0 _ rfl)); (try (rw [Nat.add_zero, show ((Kd.slice 3 (Kd.int .i64))).sz = 1 from rfl, Nat.mul_one] at hv99)); (try (replace hv99 := Option.some.inj (hv99.symm.trans HX135_0.out))); (try (subst hv99)); (try (clear hcc99 hcl99)); (try (replace ge99_0 := (show Kd.R (Kd.int .i64) 3 _ _ _ _ (rd_L1 x5_5 x8_4) from ge99_0))); (try (have HP99 := Kd.R_putg ge99_0 (x9_5 : Int) ji62)))); refine store_event (t := 3) (p := 154) (v := ?vo_w100) (w1 := (wc.setCell ⟨go98, (x9_5 : Int).toNat, none⟩ (.int .i64 ji62))) ?hg ?ho ?hn ?hr ?_; (case ho => rfl); (case hg => rfl); (case hn => rfl); (case hr => first | (go_simp; done) | (go_simp; rfl)); intro w100 hw; have hg : wc.grownBy w100 (some go98) := (by rw [hw]; exact HP99.2); have hz_ : Kd.R (Kd.int .i64) 3 w100 w.heap.size oki99 (.slice (some ⟨go98, 0, none⟩) (rd_L1 x5_5 x8_4).length c135_0) y136 := (by rw [hw, Ny136.out]; exact HP99.1); have hp_ : Kd.S (Kd.slice 3 (Kd.int .i64)) 71 w100 w.heap.size (fun _ => True) (.slice (some ad116) x5_5.length co13) y138 := (by rw [Ny138.out]; exact hbk99 hg (fun k_ e_ => by injection e_ with e_; subst e_; exact ge99_0.1 _ rfl) (Kd.M_row hz_)); have hm_ := Kd.R_mono hz_ hok99; clear HP99 hbk99; have n0_ := Aside0.mk (hp_); have n1_ := Aside0.mk ((by rw [hw]; exact below_set (HB.out) GB98.out : Below w.heap.size w w100)); have n2_ := Aside0.mk (hm_); have n3_ := Aside0.mk ((Kd.R_reads' hm_).2.1); clear HO_5; clear HB; clear HL135_0; have HO_5 := n0_; have HB := n1_; have HL142 := n2_; have HC137 := n3_; clear n0_ n1_ n2_ n3_; clear hg hw hp_ hz_ hm_ hok99)))
                                                                                    (try simp only [← hl5_5])
                                                                                    go_roundg kj62
                                                                                    case measure => have := HJ2.out; have := HK2.out; have := HK3.out; have := HK4.out; have := HK5.out; have := HJ48.out; have := HJ62.out; omega
                                                                                    case rel => exact ⟨(y138), (wrap64 (x9_5 + 1)), (by first | rfl | (simp; done) | (simp [*]; done)), H', ⟨by have := HJ2.out; have := HK2.out; have := HK3.out; have := HK4.out; have := HK5.out; have := HJ48.out; have := HJ62.out; omega⟩, ⟨by (try simp only [hl5_2]); (try simp only [hl5_3]); (try simp only [hl5_4]); (try simp only [hl5_5]); (with_reducible repeat (first | apply Kd.S_alloc | apply Kd.S_drewN | apply Kd.S_drew)); exact HO_5.out⟩, ⟨by repeat (first | (with_reducible first | exact HB.out | apply below_alloc | apply pw_below_drewN | apply below_drew1) | exact HB.out)⟩⟩
                                                                                  · rw [if_neg c97] at H
                                                                                    exact absurd H (by simp)
                                                                                · rw [if_neg c96] at H
                                                                                  exact absurd H (by simp)
                                                                              · rw [if_neg c95] at H
                                                                                exact absurd H (by simp)
                                                                            · rw [if_neg c94] at H
                                                                              exact absurd H (by simp)
                                                                    · rw [if_neg c60] at H
                                                                      exact absurd H (by simp)
                                                                  · rw [if_neg c59] at H
                                                                    exact absurd H (by simp)
                                                                · rw [if_neg c57] at H
                                                                  exact absurd H (by simp)
                                                              · rw [if_neg c56] at H
                                                                exact absurd H (by simp)
                                                            · rw [if_neg c55] at H
                                                              exact absurd H (by simp)
                                                          · rw [if_neg c54] at H
                                                            exact absurd H (by simp)
                                                        · rw [if_neg c53] at H
                                                          exact absurd H (by simp)
                                                      · rw [if_neg c52] at H
                                                        exact absurd H (by simp)
                                                · rw [if_neg c47] at H
                                                  exact absurd H (by simp)
                                              · rw [if_neg c45] at H
                                                exact absurd H (by simp)
                                            · rw [if_neg c44] at H
                                              exact absurd H (by simp)
                                          · rw [if_neg c43] at H
                                            exact absurd H (by simp)
                                        · rw [if_neg c41] at H
                                          exact absurd H (by simp)
                                      · rw [if_neg c40] at H
                                        exact absurd H (by simp)
                                    · rw [if_neg c38] at H
                                      have c38b0 : decide (x9_5 ≤ (a1.size : Int)) = false := decide_eq_false c38
                                      clear c38
                                      have H' := Aside0.mk H
                                      clear H
                                      go_wp2
                                      repeat (go_quiet (fail); try go_wp2)
                                      (try simp only [← hl5_4, ← hl5_5])
                                      go_roundg k5
                                      case measure => have := HJ2.out; have := HK2.out; have := HK3.out; have := HK4.out; have := HK5.out; omega
                                      case rel => exact ⟨(x5_5), (wrap64 (x8_4 + 1)), (by first | rfl | (simp; done) | (simp [*]; done)), H', ⟨by have := HJ2.out; have := HK2.out; have := HK3.out; have := HK4.out; have := HK5.out; omega⟩, ⟨by (try simp only [hl5_2]); (try simp only [hl5_3]); (try simp only [hl5_4]); (try simp only [hl5_5]); (with_reducible repeat (first | apply Kd.S_alloc | apply Kd.S_drewN | apply Kd.S_drew)); exact HO_5.out⟩, ⟨by repeat (first | (with_reducible first | exact HB.out | apply below_alloc | apply pw_below_drewN | apply below_drew1) | exact HB.out)⟩⟩
                              · rw [if_neg c37] at H
                                have c37b0 : decide (x8_4 ≤ (a0.size : Int)) = false := decide_eq_false c37
                                clear c37
                                by_cases c101 : 0 ≤ (a0.size : Int)
                                · rw [if_pos c101] at H
                                  have c101b0 : decide (0 ≤ (a0.size : Int)) = true := decide_eq_true c101
                                  have c101b1 : decide (0 ≤ a0.size) = true := decide_eq_true (by omega)
                                  clear c101
                                  by_cases c102 : (a0.size : Int) < (x5_4.length : Int)
                                  · rw [if_pos c102] at H
                                    have c102b0 : decide ((a0.size : Int) < (x5_4.length : Int)) = true := decide_eq_true c102
                                    try have c102b8 := c102b0
                                    try simp only [hl5_2] at c102b8
                                    try simp only [hl5_3] at c102b8
                                    try simp only [hl5_4] at c102b8
                                    try simp only [hl5_5] at c102b8
                                    have c102b1 : decide (a0.size < x5_4.length) = true := decide_eq_true (Int.ofNat_lt.mp c102)
                                    clear c102
                                    by_cases c103 : 0 ≤ (a1.size : Int)
                                    · rw [if_pos c103] at H
                                      have c103b0 : decide (0 ≤ (a1.size : Int)) = true := decide_eq_true c103
                                      have c103b1 : decide (0 ≤ a1.size) = true := decide_eq_true (by omega)
                                      clear c103
                                      by_cases c104 : (a1.size : Int) < ((rd_L1 x5_4 (a0.size : Int)).length : Int)
                                      · rw [if_pos c104] at H
                                        have c104b0 : decide ((a1.size : Int) < ((rd_L1 x5_4 (a0.size : Int)).length : Int)) = true := decide_eq_true c104
                                        try have c104b8 := c104b0
                                        try simp only [hl5_2] at c104b8
                                        try simp only [hl5_3] at c104b8
                                        try simp only [hl5_4] at c104b8
                                        try simp only [hl5_5] at c104b8
                                        have c104b1 : decide (a1.size < (rd_L1 x5_4 (a0.size : Int)).length) = true := decide_eq_true (Int.ofNat_lt.mp c104)
                                        clear c104
                                        obtain rfl := Option.some.inj H
                                        have p121 : 0 ≤ ((a0.size : Int) : Int) := of_decide_eq_true (by first | (with_reducible assumption) | assumption)
                                        have q121 : (a0.size : Int) < (x5_4.length : Int) := of_decide_eq_true (by first | (with_reducible assumption) | assumption)
                                        obtain ⟨ad121, A121_0, c121_0, e121, hx121_0, hl121_0, hi121_0⟩ := at_L1 (Kd.S_reads' HO_5.out).2.2 (a0.size : Int) p121 q121
                                        obtain rfl : ad116 = ad121 := (by injection e121)
                                        obtain ⟨ce121, hce121, hMe121, hcc121⟩ := Kd.S_get HO_5.out [] (a0.size : Int) p121 (by first | exact q121 | exact of_decide_eq_true (by first | (with_reducible assumption) | assumption) | (have e_ := (Kd.S_reads' HO_5.out).1; omega))
                                        obtain ⟨ve121_0, rfl, ge121_0⟩ := hMe121
                                        have hv121_0 := hcc121 0 _ rfl
                                        rw [Nat.add_zero, show ((Kd.slice 3 (Kd.int .i64))).sz = 1 from rfl, Nat.mul_one] at hv121_0
                                        replace hv121_0 := Option.some.inj (hv121_0.symm.trans hx121_0)
                                        rw [hv121_0] at ge121_0
                                        have HL121_0 := Aside0.mk (show Kd.R (Kd.int .i64) 3 _ _ _ _ (rd_L1 x5_4 (a0.size : Int)) from ge121_0)
                                        clear hv121_0 ge121_0
                                        have HX121_0 := Aside0.mk hx121_0
                                        clear hcc121 hce121
                                        have HR121_0 := Aside0.mk hi121_0
                                        have HC121_0 := Aside0.mk hl121_0
                                        clear hi121_0 hl121_0
                                        replace p121 := eq_true p121
                                        replace q121 := eq_true q121
                                        (try have qn121 : (a0.size < x5_4.length) = True := eq_true (by have h_ := of_eq_true q121; omega))
                                        (try simp only [Int.toNat_natCast] at hx121_0)
                                        have p122 : 0 ≤ ((a1.size : Int) : Int) := of_decide_eq_true (by first | (with_reducible assumption) | assumption)
                                        have q122 : (a1.size : Int) < ((rd_L1 x5_4 (a0.size : Int)).length : Int) := of_decide_eq_true (by first | (with_reducible assumption) | assumption)
                                        obtain ⟨ad122, e122, hx122_0⟩ := Kd.at_int (by repeat (first | (with_reducible exact HR121_0.out) | (with_reducible refine Kd.C_alloc ?_ _) | (with_reducible refine Kd.C_drewN ?_ _) | (with_reducible refine Kd.C_drew ?_) | exact HR121_0.out)) (a1.size : Int) p122 q122
                                        cases e122
                                        replace p122 := eq_true p122
                                        replace q122 := eq_true q122
                                        (try have qn122 : (a1.size < (rd_L1 x5_4 (a0.size : Int)).length) = True := eq_true (by have h_ := of_eq_true q122; omega))
                                        (try simp only [Int.toNat_natCast] at hx122_0)
                                        go_wp2
                                        repeat (go_quiet (fail); try go_wp2)
                                        go_ret
                                        exact ⟨by first | rfl | (simp [errW_none, errW_some] <;> rfl) | (simp only [← hji8]; first | rfl | (simp [errW_none, errW_some] <;> rfl)) | (simp [*, errW_none, errW_some] <;> rfl), by repeat (first | (with_reducible first | exact HB.out | apply below_alloc | apply pw_below_drewN | apply below_drew1) | exact HB.out)⟩
                                      · rw [if_neg c104] at H
                                        exact absurd H (by simp)
                                    · rw [if_neg c103] at H
                                      exact absurd H (by simp)
                                  · rw [if_neg c102] at H
                                    exact absurd H (by simp)
                                · rw [if_neg c101] at H
                                  exact absurd H (by simp)
                  · rw [if_neg c29] at H
                    exact absurd H (by simp)
          · rw [if_neg c10] at H
            exact absurd H (by simp)
        · rw [if_neg c9] at H
          exact absurd H (by simp)

end Go.Proofs.Yteddmcaljongeaa.QFnWithin
