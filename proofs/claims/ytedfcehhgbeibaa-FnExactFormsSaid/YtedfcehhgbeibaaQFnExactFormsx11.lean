import Derived.Test.YtedfcehhgbeibaaQFnExactFormsx0
import Derived.Test.YtedfcehhgbeibaaQFnExactFormsx8
import Derived.Test.YtedfcehhgbeibaaQFnExactFormsx9
import Derived.Test.YtedfcehhgbeibaaQFnExactFormsx10
namespace Go.Proofs.Ytedfcehhgbeibaa.QFnExactForms
open Go.RowKit Go.Proofs.YtedfcehhgbeibaaW.PrintWords Go.Proofs.YtedfcehhgbeibaaW.PrintLast Go.Proofs.YtedfcehhgbeibaaW.PrintMore
attribute [local go_sem] max2_int min2_int max_two min_two max_three min_three max_four min_four   -- for this text's walks alone
set_option linter.unusedVariables false
set_option linter.unusedSimpArgs false

/-! ### impl_Forms: function 20 -/
mutual
def impl_Forms.j0 : Nat → List (S44) → Bool → ByteArray → ByteArray → Option (List ByteArray)
  | 0, _, _, _, _ => none
  | k + 1, x0, x21, x242000, x242001 => if x21 = true then (some (([] : List ByteArray))) else ((some (([false, true] : List Bool) : List Bool)).bind fun y250 => (impl_Forms.l0 k x0 (([x242000] : List ByteArray)) y250 (y250.length : Int) 0 x242000 x242001))
def impl_Forms.l0 : Nat → List (S44) → List ByteArray → List Bool → Int → Int → ByteArray → ByteArray → Option (List ByteArray)
  | 0, _, _, _, _, _, _, _ => none
  | k + 1, x0, x5, x26, x27, x28, x242000, x242001 => if x28 < x27 then (if 0 ≤ x28 then (if x28 < (x26.length : Int) then ((some (([] : List ByteArray) : List ByteArray)).bind fun y257 => (if y257.length + x5.length < 8796093022208 then ((some (y257 ++ x5 : List ByteArray)).bind fun y260 => (impl_Forms.l1 k x0 x5 (rdOf false x26 x28) x26 x27 x28 y260 (y260.length : Int) 0 x242000 x242001)) else (none))) else (none)) else (none)) else ((impl_sorted.f x5).bind fun t253 => (some t253))
def impl_Forms.l1 : Nat → List (S44) → List ByteArray → Bool → List Bool → Int → Int → List ByteArray → Int → Int → ByteArray → ByteArray → Option (List ByteArray)
  | 0, _, _, _, _, _, _, _, _, _, _, _ => none
  | k + 1, x0, x5, x7, x26, x27, x28, x34, x35, x36, x242000, x242001 => if x36 < x35 then (if 0 ≤ x36 then (if x36 < (x34.length : Int) then (impl_Forms.l2 k x0 x5 x7 (rdOf ByteArray.empty x34 x36) x26 x27 x28 x34 x35 x36 x0 (x0.length : Int) 0 x242000 x242001) else (none)) else (none)) else (impl_Forms.l0 k x0 x5 x26 x27 (wrap64 (x28 + 1)) x242000 x242001)
def impl_Forms.l2 : Nat → List (S44) → List ByteArray → Bool → ByteArray → List Bool → Int → Int → List ByteArray → Int → Int → List (S44) → Int → Int → ByteArray → ByteArray → Option (List ByteArray)
  | 0, _, _, _, _, _, _, _, _, _, _, _, _, _, _, _ => none
  | k + 1, x0, x5, x7, x9, x26, x27, x28, x34, x35, x36, x40, x41, x42, x242000, x242001 => if x42 < x41 then (if 0 ≤ x42 then (if x42 < (x40.length : Int) then (if (((rd_T44 x40 x42).f1) != x7) = true then (impl_Forms.j4 k x0 x5 x7 x9 x26 x27 x28 x34 x35 x36 x40 x41 x42 true x242000 x242001 ((rd_T44 x40 x42).f0) ((rd_T44 x40 x42).f1) ((rd_T44 x40 x42).f2) ((rd_T44 x40 x42).f3) ((rd_T44 x40 x42).f4)) else ((strings_Contains.f x242001 ((rd_T44 x40 x42).f0)).bind fun t266 => (impl_Forms.j4 k x0 x5 x7 x9 x26 x27 x28 x34 x35 x36 x40 x41 x42 (!t266) x242000 x242001 ((rd_T44 x40 x42).f0) ((rd_T44 x40 x42).f1) ((rd_T44 x40 x42).f2) ((rd_T44 x40 x42).f3) ((rd_T44 x40 x42).f4)))) else (none)) else (none)) else (impl_Forms.l1 k x0 x5 x7 x26 x27 x28 x34 x35 (wrap64 (x36 + 1)) x242000 x242001)
def impl_Forms.j4 : Nat → List (S44) → List ByteArray → Bool → ByteArray → List Bool → Int → Int → List ByteArray → Int → Int → List (S44) → Int → Int → Bool → ByteArray → ByteArray → ByteArray → Bool → ByteArray → ByteArray → ByteArray → Option (List ByteArray)
  | 0, _, _, _, _, _, _, _, _, _, _, _, _, _, _, _, _, _, _, _, _, _ => none
  | k + 1, x0, x5, x7, x9, x26, x27, x28, x34, x35, x36, x40, x41, x42, x57, x242000, x242001, x266000, x266001, x266002, x266003, x266004 => if x57 = true then (impl_Forms.l2 k x0 x5 x7 x9 x26 x27 x28 x34 x35 x36 x40 x41 (wrap64 (x42 + 1)) x242000 x242001) else (if x7 = true then (impl_Forms.j5 k x0 x5 x7 x9 x26 x27 x28 x34 x35 x36 x40 x41 x42 true x242000 x242001 x266000 x266001 x266002 x266003 x266004) else (impl_Forms.j5 k x0 x5 x7 x9 x26 x27 x28 x34 x35 x36 x40 x41 x42 (x9.toList == x242000.toList) x242000 x242001 x266000 x266001 x266002 x266003 x266004))
def impl_Forms.j5 : Nat → List (S44) → List ByteArray → Bool → ByteArray → List Bool → Int → Int → List ByteArray → Int → Int → List (S44) → Int → Int → Bool → ByteArray → ByteArray → ByteArray → Bool → ByteArray → ByteArray → ByteArray → Option (List ByteArray)
  | 0, _, _, _, _, _, _, _, _, _, _, _, _, _, _, _, _, _, _, _, _, _ => none
  | k + 1, x0, x5, x7, x9, x26, x27, x28, x34, x35, x36, x40, x41, x42, x64, x242000, x242001, x266000, x266001, x266002, x266003, x266004 => if x64 = true then ((impl_AffixDo.f k x266000 x266001 x266002 x266003 x266004 x9).bind fun bt267 => (if bt267.2 = true then (if x5.length < 8796093022208 then (impl_Forms.l2 k x0 (x5 ++ [bt267.1]) x7 x9 x26 x27 x28 x34 x35 x36 x40 x41 (wrap64 (x42 + 1)) x242000 x242001) else (none)) else (impl_Forms.l2 k x0 x5 x7 x9 x26 x27 x28 x34 x35 x36 x40 x41 (wrap64 (x42 + 1)) x242000 x242001))) else (impl_Forms.l2 k x0 x5 x7 x9 x26 x27 x28 x34 x35 x36 x40 x41 (wrap64 (x42 + 1)) x242000 x242001)
end
def impl_Forms.f (k : Nat) (l0 : List (S44)) (a1_0 : ByteArray) (a1_1 : ByteArray) : Option (List ByteArray) := (impl_affixesOk.f k l0).bind fun t242 => (if t242 = true then ((impl_entryOk.f k a1_0 a1_1).bind fun t243 => (impl_Forms.j0 k l0 (!t243) a1_0 a1_1)) else (impl_Forms.j0 k l0 true a1_0 a1_1))
theorem impl_Forms.mono_l : ∀ k, (∀ y0 y1 y2 y3, LeO (impl_Forms.j0 k y0 y1 y2 y3) (impl_Forms.j0 (k + 1) y0 y1 y2 y3)) ∧ (∀ y0 y1 y2 y3 y4 y5 y6, LeO (impl_Forms.l0 k y0 y1 y2 y3 y4 y5 y6) (impl_Forms.l0 (k + 1) y0 y1 y2 y3 y4 y5 y6)) ∧ (∀ y0 y1 y2 y3 y4 y5 y6 y7 y8 y9 y10, LeO (impl_Forms.l1 k y0 y1 y2 y3 y4 y5 y6 y7 y8 y9 y10) (impl_Forms.l1 (k + 1) y0 y1 y2 y3 y4 y5 y6 y7 y8 y9 y10)) ∧ (∀ y0 y1 y2 y3 y4 y5 y6 y7 y8 y9 y10 y11 y12 y13 y14, LeO (impl_Forms.l2 k y0 y1 y2 y3 y4 y5 y6 y7 y8 y9 y10 y11 y12 y13 y14) (impl_Forms.l2 (k + 1) y0 y1 y2 y3 y4 y5 y6 y7 y8 y9 y10 y11 y12 y13 y14)) ∧ (∀ y0 y1 y2 y3 y4 y5 y6 y7 y8 y9 y10 y11 y12 y13 y14 y15 y16 y17 y18 y19 y20, LeO (impl_Forms.j4 k y0 y1 y2 y3 y4 y5 y6 y7 y8 y9 y10 y11 y12 y13 y14 y15 y16 y17 y18 y19 y20) (impl_Forms.j4 (k + 1) y0 y1 y2 y3 y4 y5 y6 y7 y8 y9 y10 y11 y12 y13 y14 y15 y16 y17 y18 y19 y20)) ∧ (∀ y0 y1 y2 y3 y4 y5 y6 y7 y8 y9 y10 y11 y12 y13 y14 y15 y16 y17 y18 y19 y20, LeO (impl_Forms.j5 k y0 y1 y2 y3 y4 y5 y6 y7 y8 y9 y10 y11 y12 y13 y14 y15 y16 y17 y18 y19 y20) (impl_Forms.j5 (k + 1) y0 y1 y2 y3 y4 y5 y6 y7 y8 y9 y10 y11 y12 y13 y14 y15 y16 y17 y18 y19 y20))
  | 0 => ⟨fun _ _ _ _ r h => by simp [impl_Forms.j0] at h, fun _ _ _ _ _ _ _ r h => by simp [impl_Forms.l0] at h, fun _ _ _ _ _ _ _ _ _ _ _ r h => by simp [impl_Forms.l1] at h, fun _ _ _ _ _ _ _ _ _ _ _ _ _ _ _ r h => by simp [impl_Forms.l2] at h, fun _ _ _ _ _ _ _ _ _ _ _ _ _ _ _ _ _ _ _ _ _ r h => by simp [impl_Forms.j4] at h, fun _ _ _ _ _ _ _ _ _ _ _ _ _ _ _ _ _ _ _ _ _ r h => by simp [impl_Forms.j5] at h⟩
  | k + 1 => by
    obtain ⟨ih0, ih1, ih2, ih3, ih4, ih5⟩ := impl_Forms.mono_l k
    refine ⟨?_, ?_, ?_, ?_, ?_, ?_⟩
    · intro y0 y1 y2 y3
      unfold impl_Forms.j0
      repeat' first
      | (with_reducible exact ih0 _ _ _ _)
      | (with_reducible exact ih1 _ _ _ _ _ _ _)
      | (with_reducible exact ih2 _ _ _ _ _ _ _ _ _ _ _)
      | (with_reducible exact ih3 _ _ _ _ _ _ _ _ _ _ _ _ _ _ _)
      | (with_reducible exact ih4 _ _ _ _ _ _ _ _ _ _ _ _ _ _ _ _ _ _ _ _ _)
      | (with_reducible exact ih5 _ _ _ _ _ _ _ _ _ _ _ _ _ _ _ _ _ _ _ _ _)
      | (with_reducible exact impl_AffixDo.mono _ _ _ _ _ _ _)
      | (with_reducible exact impl_affixesOk.mono _ _)
      | (with_reducible exact impl_entryOk.mono _ _ _)
      | (with_reducible exact LeO.refl _)
      | (with_reducible exact LeO.none _)
      | (with_reducible refine LeO.ite ?_ ?_)
      | (with_reducible refine LeO.bind ?_ (fun _ => ?_))
      | exact ih0 _ _ _ _
      | exact ih1 _ _ _ _ _ _ _
      | exact ih2 _ _ _ _ _ _ _ _ _ _ _
      | exact ih3 _ _ _ _ _ _ _ _ _ _ _ _ _ _ _
      | exact ih4 _ _ _ _ _ _ _ _ _ _ _ _ _ _ _ _ _ _ _ _ _
      | exact ih5 _ _ _ _ _ _ _ _ _ _ _ _ _ _ _ _ _ _ _ _ _
      | exact impl_AffixDo.mono _ _ _ _ _ _ _
      | exact impl_affixesOk.mono _ _
      | exact impl_entryOk.mono _ _ _
      | exact LeO.none _
      | refine LeO.ite ?_ ?_
      | refine LeO.bind ?_ (fun _ => ?_)
    · intro y0 y1 y2 y3 y4 y5 y6
      unfold impl_Forms.l0
      repeat' first
      | (with_reducible exact ih0 _ _ _ _)
      | (with_reducible exact ih1 _ _ _ _ _ _ _)
      | (with_reducible exact ih2 _ _ _ _ _ _ _ _ _ _ _)
      | (with_reducible exact ih3 _ _ _ _ _ _ _ _ _ _ _ _ _ _ _)
      | (with_reducible exact ih4 _ _ _ _ _ _ _ _ _ _ _ _ _ _ _ _ _ _ _ _ _)
      | (with_reducible exact ih5 _ _ _ _ _ _ _ _ _ _ _ _ _ _ _ _ _ _ _ _ _)
      | (with_reducible exact impl_AffixDo.mono _ _ _ _ _ _ _)
      | (with_reducible exact impl_affixesOk.mono _ _)
      | (with_reducible exact impl_entryOk.mono _ _ _)
      | (with_reducible exact LeO.refl _)
      | (with_reducible exact LeO.none _)
      | (with_reducible refine LeO.ite ?_ ?_)
      | (with_reducible refine LeO.bind ?_ (fun _ => ?_))
      | exact ih0 _ _ _ _
      | exact ih1 _ _ _ _ _ _ _
      | exact ih2 _ _ _ _ _ _ _ _ _ _ _
      | exact ih3 _ _ _ _ _ _ _ _ _ _ _ _ _ _ _
      | exact ih4 _ _ _ _ _ _ _ _ _ _ _ _ _ _ _ _ _ _ _ _ _
      | exact ih5 _ _ _ _ _ _ _ _ _ _ _ _ _ _ _ _ _ _ _ _ _
      | exact impl_AffixDo.mono _ _ _ _ _ _ _
      | exact impl_affixesOk.mono _ _
      | exact impl_entryOk.mono _ _ _
      | exact LeO.none _
      | refine LeO.ite ?_ ?_
      | refine LeO.bind ?_ (fun _ => ?_)
    · intro y0 y1 y2 y3 y4 y5 y6 y7 y8 y9 y10
      unfold impl_Forms.l1
      repeat' first
      | (with_reducible exact ih0 _ _ _ _)
      | (with_reducible exact ih1 _ _ _ _ _ _ _)
      | (with_reducible exact ih2 _ _ _ _ _ _ _ _ _ _ _)
      | (with_reducible exact ih3 _ _ _ _ _ _ _ _ _ _ _ _ _ _ _)
      | (with_reducible exact ih4 _ _ _ _ _ _ _ _ _ _ _ _ _ _ _ _ _ _ _ _ _)
      | (with_reducible exact ih5 _ _ _ _ _ _ _ _ _ _ _ _ _ _ _ _ _ _ _ _ _)
      | (with_reducible exact impl_AffixDo.mono _ _ _ _ _ _ _)
      | (with_reducible exact impl_affixesOk.mono _ _)
      | (with_reducible exact impl_entryOk.mono _ _ _)
      | (with_reducible exact LeO.refl _)
      | (with_reducible exact LeO.none _)
      | (with_reducible refine LeO.ite ?_ ?_)
      | (with_reducible refine LeO.bind ?_ (fun _ => ?_))
      | exact ih0 _ _ _ _
      | exact ih1 _ _ _ _ _ _ _
      | exact ih2 _ _ _ _ _ _ _ _ _ _ _
      | exact ih3 _ _ _ _ _ _ _ _ _ _ _ _ _ _ _
      | exact ih4 _ _ _ _ _ _ _ _ _ _ _ _ _ _ _ _ _ _ _ _ _
      | exact ih5 _ _ _ _ _ _ _ _ _ _ _ _ _ _ _ _ _ _ _ _ _
      | exact impl_AffixDo.mono _ _ _ _ _ _ _
      | exact impl_affixesOk.mono _ _
      | exact impl_entryOk.mono _ _ _
      | exact LeO.none _
      | refine LeO.ite ?_ ?_
      | refine LeO.bind ?_ (fun _ => ?_)
    · intro y0 y1 y2 y3 y4 y5 y6 y7 y8 y9 y10 y11 y12 y13 y14
      unfold impl_Forms.l2
      repeat' first
      | (with_reducible exact ih0 _ _ _ _)
      | (with_reducible exact ih1 _ _ _ _ _ _ _)
      | (with_reducible exact ih2 _ _ _ _ _ _ _ _ _ _ _)
      | (with_reducible exact ih3 _ _ _ _ _ _ _ _ _ _ _ _ _ _ _)
      | (with_reducible exact ih4 _ _ _ _ _ _ _ _ _ _ _ _ _ _ _ _ _ _ _ _ _)
      | (with_reducible exact ih5 _ _ _ _ _ _ _ _ _ _ _ _ _ _ _ _ _ _ _ _ _)
      | (with_reducible exact impl_AffixDo.mono _ _ _ _ _ _ _)
      | (with_reducible exact impl_affixesOk.mono _ _)
      | (with_reducible exact impl_entryOk.mono _ _ _)
      | (with_reducible exact LeO.refl _)
      | (with_reducible exact LeO.none _)
      | (with_reducible refine LeO.ite ?_ ?_)
      | (with_reducible refine LeO.bind ?_ (fun _ => ?_))
      | exact ih0 _ _ _ _
      | exact ih1 _ _ _ _ _ _ _
      | exact ih2 _ _ _ _ _ _ _ _ _ _ _
      | exact ih3 _ _ _ _ _ _ _ _ _ _ _ _ _ _ _
      | exact ih4 _ _ _ _ _ _ _ _ _ _ _ _ _ _ _ _ _ _ _ _ _
      | exact ih5 _ _ _ _ _ _ _ _ _ _ _ _ _ _ _ _ _ _ _ _ _
      | exact impl_AffixDo.mono _ _ _ _ _ _ _
      | exact impl_affixesOk.mono _ _
      | exact impl_entryOk.mono _ _ _
      | exact LeO.none _
      | refine LeO.ite ?_ ?_
      | refine LeO.bind ?_ (fun _ => ?_)
    · intro y0 y1 y2 y3 y4 y5 y6 y7 y8 y9 y10 y11 y12 y13 y14 y15 y16 y17 y18 y19 y20
      unfold impl_Forms.j4
      repeat' first
      | (with_reducible exact ih0 _ _ _ _)
      | (with_reducible exact ih1 _ _ _ _ _ _ _)
      | (with_reducible exact ih2 _ _ _ _ _ _ _ _ _ _ _)
      | (with_reducible exact ih3 _ _ _ _ _ _ _ _ _ _ _ _ _ _ _)
      | (with_reducible exact ih4 _ _ _ _ _ _ _ _ _ _ _ _ _ _ _ _ _ _ _ _ _)
      | (with_reducible exact ih5 _ _ _ _ _ _ _ _ _ _ _ _ _ _ _ _ _ _ _ _ _)
      | (with_reducible exact impl_AffixDo.mono _ _ _ _ _ _ _)
      | (with_reducible exact impl_affixesOk.mono _ _)
      | (with_reducible exact impl_entryOk.mono _ _ _)
      | (with_reducible exact LeO.refl _)
      | (with_reducible exact LeO.none _)
      | (with_reducible refine LeO.ite ?_ ?_)
      | (with_reducible refine LeO.bind ?_ (fun _ => ?_))
      | exact ih0 _ _ _ _
      | exact ih1 _ _ _ _ _ _ _
      | exact ih2 _ _ _ _ _ _ _ _ _ _ _
      | exact ih3 _ _ _ _ _ _ _ _ _ _ _ _ _ _ _
      | exact ih4 _ _ _ _ _ _ _ _ _ _ _ _ _ _ _ _ _ _ _ _ _
      | exact ih5 _ _ _ _ _ _ _ _ _ _ _ _ _ _ _ _ _ _ _ _ _
      | exact impl_AffixDo.mono _ _ _ _ _ _ _
      | exact impl_affixesOk.mono _ _
      | exact impl_entryOk.mono _ _ _
      | exact LeO.none _
      | refine LeO.ite ?_ ?_
      | refine LeO.bind ?_ (fun _ => ?_)
    · intro y0 y1 y2 y3 y4 y5 y6 y7 y8 y9 y10 y11 y12 y13 y14 y15 y16 y17 y18 y19 y20
      unfold impl_Forms.j5
      repeat' first
      | (with_reducible exact ih0 _ _ _ _)
      | (with_reducible exact ih1 _ _ _ _ _ _ _)
      | (with_reducible exact ih2 _ _ _ _ _ _ _ _ _ _ _)
      | (with_reducible exact ih3 _ _ _ _ _ _ _ _ _ _ _ _ _ _ _)
      | (with_reducible exact ih4 _ _ _ _ _ _ _ _ _ _ _ _ _ _ _ _ _ _ _ _ _)
      | (with_reducible exact ih5 _ _ _ _ _ _ _ _ _ _ _ _ _ _ _ _ _ _ _ _ _)
      | (with_reducible exact impl_AffixDo.mono _ _ _ _ _ _ _)
      | (with_reducible exact impl_affixesOk.mono _ _)
      | (with_reducible exact impl_entryOk.mono _ _ _)
      | (with_reducible exact LeO.refl _)
      | (with_reducible exact LeO.none _)
      | (with_reducible refine LeO.ite ?_ ?_)
      | (with_reducible refine LeO.bind ?_ (fun _ => ?_))
      | exact ih0 _ _ _ _
      | exact ih1 _ _ _ _ _ _ _
      | exact ih2 _ _ _ _ _ _ _ _ _ _ _
      | exact ih3 _ _ _ _ _ _ _ _ _ _ _ _ _ _ _
      | exact ih4 _ _ _ _ _ _ _ _ _ _ _ _ _ _ _ _ _ _ _ _ _
      | exact ih5 _ _ _ _ _ _ _ _ _ _ _ _ _ _ _ _ _ _ _ _ _
      | exact impl_AffixDo.mono _ _ _ _ _ _ _
      | exact impl_affixesOk.mono _ _
      | exact impl_entryOk.mono _ _ _
      | exact LeO.none _
      | refine LeO.ite ?_ ?_
      | refine LeO.bind ?_ (fun _ => ?_)
theorem impl_Forms.mono : ∀ a0 a1 a2 k, LeO (impl_Forms.f k a0 a1 a2) (impl_Forms.f (k + 1) a0 a1 a2) := by
  intro a0 a1 a2 k
  obtain ⟨ih0, ih1, ih2, ih3, ih4, ih5⟩ := impl_Forms.mono_l k
  unfold impl_Forms.f
  repeat' first
      | (with_reducible exact ih0 _ _ _ _)
      | (with_reducible exact ih1 _ _ _ _ _ _ _)
      | (with_reducible exact ih2 _ _ _ _ _ _ _ _ _ _ _)
      | (with_reducible exact ih3 _ _ _ _ _ _ _ _ _ _ _ _ _ _ _)
      | (with_reducible exact ih4 _ _ _ _ _ _ _ _ _ _ _ _ _ _ _ _ _ _ _ _ _)
      | (with_reducible exact ih5 _ _ _ _ _ _ _ _ _ _ _ _ _ _ _ _ _ _ _ _ _)
      | (with_reducible exact impl_AffixDo.mono _ _ _ _ _ _ _)
      | (with_reducible exact impl_affixesOk.mono _ _)
      | (with_reducible exact impl_entryOk.mono _ _ _)
      | (with_reducible exact LeO.refl _)
      | (with_reducible exact LeO.none _)
      | (with_reducible refine LeO.ite ?_ ?_)
      | (with_reducible refine LeO.bind ?_ (fun _ => ?_))
      | exact ih0 _ _ _ _
      | exact ih1 _ _ _ _ _ _ _
      | exact ih2 _ _ _ _ _ _ _ _ _ _ _
      | exact ih3 _ _ _ _ _ _ _ _ _ _ _ _ _ _ _
      | exact ih4 _ _ _ _ _ _ _ _ _ _ _ _ _ _ _ _ _ _ _ _ _
      | exact ih5 _ _ _ _ _ _ _ _ _ _ _ _ _ _ _ _ _ _ _ _ _
      | exact impl_AffixDo.mono _ _ _ _ _ _ _
      | exact impl_affixesOk.mono _ _
      | exact impl_entryOk.mono _ _ _
      | exact LeO.none _
      | refine LeO.ite ?_ ?_
      | refine LeO.bind ?_ (fun _ => ?_)
set_option maxHeartbeats 8000000 in
set_option maxRecDepth 100000 in
theorem impl_Forms.calls (k : Nat) (A0 : Option Addr) (c0 : Nat) (l0 : List (S44)) (a1_0 : ByteArray) (a1_1 : ByteArray) (r : List ByteArray) (w : World) (hr0 : Kd.C k44 w A0 l0.length l0) (hc0 : l0.length ≤ c0) (h : impl_Forms.f k l0 a1_0 a1_1 = some r) :
    Calls Try.prog 20 #[.slice A0 l0.length c0, .agg #[.string a1_0, .string a1_1]] w fun e w' => ∃ v0_ : Value, e = .returned (v0_) ∧ Kd.R Kd.string 9 w' w.heap.size (fun _ => True) v0_ r ∧ Below w.heap.size w w' := by
  have hu31 := Try.underlying31
  have hu44 := Try.underlying44
  have HR0 := Aside0.mk hr0
  have HC0 := Aside0.mk hc0
  clear hr0 hc0
  have HB := Aside0.mk (Below.refl w.heap.size w)
  have H : ((impl_affixesOk.f k l0).bind fun t242 => (if t242 = true then ((impl_entryOk.f k a1_0 a1_1).bind fun t243 => (impl_Forms.j0 k l0 (!t243) a1_0 a1_1)) else (impl_Forms.j0 k l0 true a1_0 a1_1))) = some r := h
  clear h
  have HC3 := Aside0.mk H
  clear H
  go_enter Try.func20, Try.ntmps20
  go_upto_region 1 with (first | ((with_reducible refine gate_dst (N := 3) rfl ?_); refine box_event ?hg (N := 3) ?hd (cs := #[.string a1_0, .string a1_1]) (t := 31) ?hr ?_; (case hd => rfl); (case hg => rfl); (case hr => first | (go_simp; done) | (go_simp; rfl)); intro gb241 hg w4 hbox hb; have n0_ := Aside0.mk (below_step (by repeat (first | (with_reducible first | exact HB.out | apply below_alloc | apply pw_below_drewN | apply below_drew1) | exact HB.out)) hb); have n1_ := Aside0.mk (hbox); have n2_ := Aside0.mk ((by rw [hg]; exact (below_size (by repeat (first | (with_reducible first | exact HB.out | apply below_alloc | apply pw_below_drewN | apply below_drew1) | exact HB.out))) : w.heap.size ≤ gb241)); have n3_ := Aside0.mk ((by rw [hg]; exact (below_size (by repeat (first | (with_reducible first | exact HB.out | apply below_alloc | apply pw_below_drewN | apply below_drew1) | exact HB.out))) : w.heap.size ≤ gb241)); clear HB; have HB := n0_; have BK241 := n1_; have GW241 := n2_; have GE241 := n3_; clear n0_ n1_ n2_ n3_; clear hb hbox hg))
  (try simp only [Act.put, List.setIfInBounds_toArray, List.set_cons_zero, List.set_cons_succ])
  go_cut [21] (fun v21 wc => ∃ (kq : Nat) (x21_2 : Bool), v21 = .bool x21_2 ∧ Aside0 (impl_Forms.j0 kq l0 x21_2 a1_0 a1_1 = some r) ∧ Aside0 (kq ≤ k) ∧ Aside0 (wc.heap[gb241]? = some (.cells #[.string a1_0, .string a1_1] 31 (0, 0))) ∧ Aside0 (Below w.heap.size w wc))
  case first =>
    have H := HC3.out
    clear HC3
    replace H := Option.bind_eq_some_iff.mp H
    obtain ⟨t242, A50, H⟩ := H
    replace H : (if t242 = true then ((impl_entryOk.f k a1_0 a1_1).bind fun t243 => (impl_Forms.j0 k l0 (!t243) a1_0 a1_1)) else (impl_Forms.j0 k l0 true a1_0 a1_1)) = some r := H
    have A5 := Aside0.mk A50
    clear A50
    by_cases c6 : t242 = true
    · subst c6
      have H1 : ((impl_entryOk.f k a1_0 a1_1).bind fun t243 => (impl_Forms.j0 k l0 (!t243) a1_0 a1_1)) = some r := by rw [if_pos rfl] at H; exact H
      clear H
      have H := H1
      clear H1
      replace H := Option.bind_eq_some_iff.mp H
      obtain ⟨t243, A70, H⟩ := H
      replace H : (impl_Forms.j0 k l0 (!t243) a1_0 a1_1) = some r := H
      have A7 := Aside0.mk A70
      clear A70
      have H' := Aside0.mk H
      clear H
      go_wp2_with (first | ((with_reducible refine gate_callee (f := 57) rfl ?_); refine goesL_ (some 15) rfl rfl Try.func57 (by kernel_rfl) rfl #[.slice A0 l0.length c0] rfl (by (try simp only [List.map_toArray, List.map_cons, List.map_nil]); first | done | rfl | (simp only [List.length_drop, List.length_take]; rfl)) ?_; (with_reducible refine (impl_affixesOk.calls k _ _ l0 true _ ?side1 ?side2 A5.out).mono ?_); (case side1 => repeat (first | exact (Kd.C_below HR0.out HB.out) | (with_reducible refine Kd.C_alloc ?_ _) | (with_reducible refine Kd.C_drewN ?_ _) | (with_reducible refine Kd.C_drew ?_))); (case side2 => exact HC0.out); rintro e w8 ⟨rfl, hb⟩; refine ⟨_, rfl, ?_⟩; have n0_ := Aside0.mk (blk_below (g := gb241) (o := .cells #[.string a1_0, .string a1_1] 31 (0, 0)) (by (with_reducible repeat (first | refine blk_drewN ?_ _ | refine blk_drew ?_ | refine blk_alloc ?_ _)); exact BK241.out) hb); have n1_ := Aside0.mk (below_step (by repeat (first | (with_reducible first | exact HB.out | apply below_alloc | apply pw_below_drewN | apply below_drew1 | refine below_set ?_ GE241.out) | exact HB.out)) hb); clear BK241; clear HB; have BK241 := n0_; have HB := n1_; clear n0_ n1_; (try clear hb); (try clear hb2); (try clear hk); (try clear hi); have hcz9_0 : w8.cell? ⟨gb241, 0, none⟩ = some (.string a1_0) := (blk_cell BK241.out 0).trans rfl; have hcz9_1 : w8.cell? ⟨gb241, 1, none⟩ = some (.string a1_1) := (blk_cell BK241.out 1).trans rfl; have hfz9_0 := blk_frozen BK241.out 0; have hfz9_1 := blk_frozen BK241.out 1) | (go_at_call 58; (with_reducible refine (impl_entryOk.calls k a1_0 a1_1 t243 _ A7.out).mono ?_); rintro e w10 ⟨rfl, hb⟩; have n0_ := Aside0.mk (blk_below (g := gb241) (o := .cells #[.string a1_0, .string a1_1] 31 (0, 0)) (by (with_reducible repeat (first | refine blk_drewN ?_ _ | refine blk_drew ?_ | refine blk_alloc ?_ _)); exact BK241.out) hb); have n1_ := Aside0.mk (below_step (by repeat (first | (with_reducible first | exact HB.out | apply below_alloc | apply pw_below_drewN | apply below_drew1 | refine below_set ?_ GE241.out) | exact HB.out)) hb); clear BK241; clear HB; have BK241 := n0_; have HB := n1_; clear n0_ n1_; (try clear hb); (try clear hb2); (try clear hk); (try clear hi)))
      go_meet
      case rel => exact ⟨_, (!t243), (by first | rfl | (simp; done) | (simp [*]; done)), H', ⟨by first | omega | exact Nat.le_refl _⟩, ⟨by (with_reducible repeat (first | refine blk_drewN ?_ _ | refine blk_drew ?_ | refine blk_alloc ?_ _)); exact BK241.out⟩, ⟨by repeat (first | (with_reducible first | exact HB.out | apply below_alloc | apply pw_below_drewN | apply below_drew1 | refine below_set ?_ GE241.out) | exact HB.out)⟩⟩
    · replace c6 := Bool.eq_false_iff.mpr c6
      subst c6
      have H1 : (impl_Forms.j0 k l0 true a1_0 a1_1) = some r := by rw [if_neg (show ¬ (false = true) by decide)] at H; exact H
      clear H
      have H := H1
      clear H1
      have H' := Aside0.mk H
      clear H
      go_wp2_with (first | ((with_reducible refine gate_callee (f := 57) rfl ?_); refine goesL_ (some 15) rfl rfl Try.func57 (by kernel_rfl) rfl #[.slice A0 l0.length c0] rfl (by (try simp only [List.map_toArray, List.map_cons, List.map_nil]); first | done | rfl | (simp only [List.length_drop, List.length_take]; rfl)) ?_; (with_reducible refine (impl_affixesOk.calls k _ _ l0 false _ ?side1 ?side2 A5.out).mono ?_); (case side1 => repeat (first | exact (Kd.C_below HR0.out HB.out) | (with_reducible refine Kd.C_alloc ?_ _) | (with_reducible refine Kd.C_drewN ?_ _) | (with_reducible refine Kd.C_drew ?_))); (case side2 => exact HC0.out); rintro e w11 ⟨rfl, hb⟩; refine ⟨_, rfl, ?_⟩; have n0_ := Aside0.mk (blk_below (g := gb241) (o := .cells #[.string a1_0, .string a1_1] 31 (0, 0)) (by (with_reducible repeat (first | refine blk_drewN ?_ _ | refine blk_drew ?_ | refine blk_alloc ?_ _)); exact BK241.out) hb); have n1_ := Aside0.mk (below_step (by repeat (first | (with_reducible first | exact HB.out | apply below_alloc | apply pw_below_drewN | apply below_drew1 | refine below_set ?_ GE241.out) | exact HB.out)) hb); clear BK241; clear HB; have BK241 := n0_; have HB := n1_; clear n0_ n1_; (try clear hb); (try clear hb2); (try clear hk); (try clear hi)))
      go_meet
      case rel => exact ⟨_, (true), (by first | rfl | (simp; done) | (simp [*]; done)), H', ⟨by first | omega | exact Nat.le_refl _⟩, ⟨by (with_reducible repeat (first | refine blk_drewN ?_ _ | refine blk_drew ?_ | refine blk_alloc ?_ _)); exact BK241.out⟩, ⟨by repeat (first | (with_reducible first | exact HB.out | apply below_alloc | apply pw_below_drewN | apply below_drew1 | refine below_set ?_ GE241.out) | exact HB.out)⟩⟩
  case rest =>
    clear HC3
    try clear c2
    try clear p2
    try clear c5
    try clear c6
    try clear hcz9_0
    try clear hcz9_1
    try clear hfz9_0
    try clear hfz9_1
    obtain ⟨kq, x21_2, rfl, HA, HJ2, BK241, HB⟩ := hcut
    cases kq with
    | zero => exact absurd HA.out (by simp [impl_Forms.j0])
    | succ kj2 =>
      have H := HA.out
      clear HA
      simp only [impl_Forms.j0] at H
      by_cases c12 : x21_2 = true
      · subst c12
        have H1 : (some (([] : List ByteArray))) = some r := by rw [if_pos rfl] at H; exact H
        clear H
        have H := H1
        clear H1
        obtain ⟨y244, hy244⟩ : ∃ y_ : List ByteArray, y_ = (([] : List ByteArray)) := ⟨_, rfl⟩
        replace H : (some y244) = some r := by first | (rw [hy244]; with_reducible exact H) | (have H2_ := (Option.bind_some _ _).symm.trans H; rw [hy244]; with_reducible exact H2_) | (have H2_ := (Option.bind_some _ _).symm.trans H; with_reducible exact H2_) | with_reducible exact H | (rw [hy244]; exact H) | exact H
        have Ny244 := Aside0.mk hy244
        clear hy244
        obtain rfl := Option.some.inj H
        go_wp2_with (first | ((with_reducible refine gate_dst (N := 22) rfl ?_); refine Kd.R_lit Kd.string _ 9 ?hg (N := 22) ?hd (xs := ([] : List ByteArray)) (inner := []) (ok := fun _ => True) (okp := fun _ => True) ?hr ?hp (fun _ hk => hk) trivial (Below.refl _ _) (Nat.le_refl _) (by simp) ?_; (case hd => rfl); (case hg => rfl); (case hr => first | (go_simp; done) | (go_simp; rfl)); (case hp => exact (Reps.none _ _)); intro v245 w13 ho14 hb hg_ hnew_; clear hg_ hnew_; (first | rw [← Ny244.out] at ho14 | (simp only [Int.reduceToNat] at ho14; rw [← Ny244.out] at ho14) | (simp only [Int.toNat_natCast] at ho14; rw [← Ny244.out] at ho14)); have n0_ := Aside0.mk (Kd.R_lower ho14 (below_size (by repeat (first | (with_reducible first | exact HB.out | apply below_alloc | apply pw_below_drewN | apply below_drew1 | refine below_set ?_ GE241.out) | exact HB.out)))); have n1_ := Aside0.mk (blk_below (g := gb241) (o := .cells #[.string a1_0, .string a1_1] 31 (0, 0)) (by (with_reducible repeat (first | refine blk_drewN ?_ _ | refine blk_drew ?_ | refine blk_alloc ?_ _)); exact BK241.out) hb); have n2_ := Aside0.mk (below_step (by repeat (first | (with_reducible first | exact HB.out | apply below_alloc | apply pw_below_drewN | apply below_drew1 | refine below_set ?_ GE241.out) | exact HB.out)) hb); clear BK241; clear HB; have HO246 := n0_; have BK241 := n1_; have HB := n2_; clear n0_ n1_ n2_; clear hb ho14))
        go_ret
        exact ⟨_, by first | rfl | (simp [errW_none, errW_some] <;> rfl) | (simp [*, errW_none, errW_some] <;> rfl), by (with_reducible repeat (first | apply Kd.R_alloc | apply Kd.R_drewN | apply Kd.R_drew)); exact HO246.out, by repeat (first | (with_reducible first | exact HB.out | apply below_alloc | apply pw_below_drewN | apply below_drew1 | refine below_set ?_ GE241.out) | exact HB.out)⟩
      · replace c12 := Bool.eq_false_iff.mpr c12
        subst c12
        have H1 : ((some (([false, true] : List Bool) : List Bool)).bind fun y250 => (impl_Forms.l0 kj2 l0 (([a1_0] : List ByteArray)) y250 (y250.length : Int) 0 a1_0 a1_1)) = some r := by rw [if_neg (show ¬ (false = true) by decide)] at H; exact H
        clear H
        have H := H1
        clear H1
        obtain ⟨y247, hy247⟩ : ∃ y_ : List ByteArray, y_ = (([a1_0] : List ByteArray)) := ⟨_, rfl⟩
        replace H : ((some (([false, true] : List Bool) : List Bool)).bind fun y250 => (impl_Forms.l0 kj2 l0 y247 y250 (y250.length : Int) 0 a1_0 a1_1)) = some r := by first | (rw [hy247]; with_reducible exact H) | (have H2_ := (Option.bind_some _ _).symm.trans H; rw [hy247]; with_reducible exact H2_) | (have H2_ := (Option.bind_some _ _).symm.trans H; with_reducible exact H2_) | with_reducible exact H | (rw [hy247]; exact H) | exact H
        have Ny247 := Aside0.mk hy247
        clear hy247
        obtain ⟨y250, hy250⟩ : ∃ y_ : List Bool, y_ = (([false, true] : List Bool)) := ⟨_, rfl⟩
        replace H : (impl_Forms.l0 kj2 l0 y247 y250 (y250.length : Int) 0 a1_0 a1_1) = some r := by first | (rw [hy250]; with_reducible exact H) | (have H2_ := (Option.bind_some _ _).symm.trans H; rw [hy250]; with_reducible exact H2_) | (have H2_ := (Option.bind_some _ _).symm.trans H; with_reducible exact H2_) | with_reducible exact H | (rw [hy250]; exact H) | exact H
        have Ny250 := Aside0.mk hy250
        clear hy250
        have H' := Aside0.mk H
        clear H
        have hcz15_0 : wc.cell? ⟨gb241, 0, none⟩ = some (.string a1_0) := (blk_cell BK241.out 0).trans rfl
        have hcz15_1 : wc.cell? ⟨gb241, 1, none⟩ = some (.string a1_1) := (blk_cell BK241.out 1).trans rfl
        have hfz15_0 := blk_frozen BK241.out 0
        have hfz15_1 := blk_frozen BK241.out 1
        go_wp2_with (first | ((with_reducible refine gate_dst (N := 25) rfl ?_); refine Kd.R_lit Kd.string _ 9 ?hg (N := 25) ?hd (xs := ([a1_0] : List ByteArray)) (inner := [.string a1_0]) (ok := fun _ => True) (okp := fun _ => True) ?hr ?hp (fun _ hk => hk) trivial (Below.refl _ _) (Nat.le_refl _) (by simp) ?_; (case hd => rfl); (case hg => rfl); (case hr => first | (go_simp; done) | (go_simp; rfl)); (case hp => exact (Reps.one (show Kd.M Kd.string _ _ _ a1_0 [.string a1_0] from rfl) (Reps.none _ _))); intro v248 w16 ho17 hb hg_ hnew_; clear hg_ hnew_; (first | rw [← Ny247.out] at ho17 | (simp only [Int.reduceToNat] at ho17; rw [← Ny247.out] at ho17) | (simp only [Int.toNat_natCast] at ho17; rw [← Ny247.out] at ho17)); have n0_ := Aside0.mk (Kd.R_lower ho17 (below_size (by repeat (first | (with_reducible first | exact HB.out | apply below_alloc | apply pw_below_drewN | apply below_drew1 | refine below_set ?_ GE241.out) | exact HB.out)))); have n1_ := Aside0.mk (blk_below (g := gb241) (o := .cells #[.string a1_0, .string a1_1] 31 (0, 0)) (by (with_reducible repeat (first | refine blk_drewN ?_ _ | refine blk_drew ?_ | refine blk_alloc ?_ _)); exact BK241.out) hb); have n2_ := Aside0.mk (below_step (by repeat (first | (with_reducible first | exact HB.out | apply below_alloc | apply pw_below_drewN | apply below_drew1 | refine below_set ?_ GE241.out) | exact HB.out)) hb); clear BK241; clear HB; have HO249 := n0_; have BK241 := n1_; have HB := n2_; clear n0_ n1_ n2_; clear hb ho17) | ((with_reducible refine gate_dst (N := 26) rfl ?_); refine Kd.R_lit Kd.bool _ 4 ?hg (N := 26) ?hd (xs := ([false, true] : List Bool)) (inner := [.bool false, .bool true]) (ok := fun _ => True) (okp := fun _ => True) ?hr ?hp (fun _ hk => hk) trivial (Below.refl _ _) (Nat.le_refl _) (by simp) ?_; (case hd => rfl); (case hg => rfl); (case hr => first | (go_simp; done) | (go_simp; rfl)); (case hp => exact (Reps.one (show Kd.M Kd.bool _ _ _ false [.bool false] from rfl) (Reps.one (show Kd.M Kd.bool _ _ _ true [.bool true] from rfl) (Reps.none _ _)))); intro v251 w18 ho19 hb hg_ hnew_; clear hg_ hnew_; (first | rw [← Ny250.out] at ho19 | (simp only [Int.reduceToNat] at ho19; rw [← Ny250.out] at ho19) | (simp only [Int.toNat_natCast] at ho19; rw [← Ny250.out] at ho19)); have n0_ := Aside0.mk (Kd.R_below (by (with_reducible repeat (first | apply Kd.R_alloc | apply Kd.R_drewN | apply Kd.R_drew)); exact HO249.out) hb); have n1_ := Aside0.mk (Kd.R_lower ho19 (below_size (by repeat (first | (with_reducible first | exact HB.out | apply below_alloc | apply pw_below_drewN | apply below_drew1 | refine below_set ?_ GE241.out) | exact HB.out)))); have n2_ := Aside0.mk (blk_below (g := gb241) (o := .cells #[.string a1_0, .string a1_1] 31 (0, 0)) (by (with_reducible repeat (first | refine blk_drewN ?_ _ | refine blk_drew ?_ | refine blk_alloc ?_ _)); exact BK241.out) hb); have n3_ := Aside0.mk (below_step (by repeat (first | (with_reducible first | exact HB.out | apply below_alloc | apply pw_below_drewN | apply below_drew1 | refine below_set ?_ GE241.out) | exact HB.out)) hb); clear HO249; clear BK241; clear HB; have HO249 := n0_; have HO252 := n1_; have BK241 := n2_; have HB := n3_; clear n0_ n1_ n2_ n3_; clear hb ho19; obtain ⟨Ao20, co20, eo20⟩ := Kd.R_slice HO252.out; subst eo20))
        go_loopg [5, 28] kj2 (fun kq v5 v28 w' => ∃ (x5_2 : List ByteArray) (x28_2 : Int), v28 = .int .i64 x28_2 ∧ Aside0 (impl_Forms.l0 kq l0 x5_2 y250 (y250.length : Int) x28_2 a1_0 a1_1 = some r) ∧ Aside0 (kq ≤ kj2) ∧ Aside0 (Kd.R Kd.string 9 w' w.heap.size (fun _ => True) v5 x5_2) ∧ Aside0 (Kd.R Kd.bool 4 w' w.heap.size (fun _ => True) (.slice Ao20 y250.length co20) y250) ∧ Aside0 (w'.heap[gb241]? = some (.cells #[.string a1_0, .string a1_1] 31 (0, 0))) ∧ Aside0 (Below w.heap.size w w'))
        case atStart => exact ⟨(y247), (0), (by first | rfl | (simp; done) | (simp [*]; done)), H', ⟨Nat.le_refl _⟩, ⟨by (with_reducible repeat (first | apply Kd.R_alloc | apply Kd.R_drewN | apply Kd.R_drew)); exact HO249.out⟩, ⟨by (with_reducible repeat (first | apply Kd.R_alloc | apply Kd.R_drewN | apply Kd.R_drew)); exact HO252.out⟩, ⟨by (with_reducible repeat (first | refine blk_drewN ?_ _ | refine blk_drew ?_ | refine blk_alloc ?_ _)); exact BK241.out⟩, ⟨by repeat (first | (with_reducible first | exact HB.out | apply below_alloc | apply pw_below_drewN | apply below_drew1 | refine below_set ?_ GE241.out) | exact HB.out)⟩⟩
        case round =>
          clear H'
          try clear c1
          try clear c2
          try clear p2
          try clear c5
          try clear c6
          try clear c12
          try clear c20
          try clear hcz15_0
          try clear hcz15_1
          try clear hcz9_0
          try clear hcz9_1
          try clear hfz15_0
          try clear hfz15_1
          try clear hfz9_0
          try clear hfz9_1
          try clear p2
          obtain ⟨x5_2, x28_2, rfl, HA, HK2, HO_5, HO_26, BK241, HB⟩ := hrel
          cases gk with
          | zero => exact absurd HA.out (by simp [impl_Forms.l0])
          | succ k2 =>
            have H := HA.out
            clear HA
            simp only [impl_Forms.l0] at H
            by_cases c21 : x28_2 < (y250.length : Int)
            · rw [if_pos c21] at H
              have c21b0 : decide (x28_2 < (y250.length : Int)) = true := decide_eq_true c21
              clear c21
              by_cases c22 : 0 ≤ x28_2
              · rw [if_pos c22] at H
                have c22b0 : decide (0 ≤ x28_2) = true := decide_eq_true c22
                clear c22
                by_cases c23 : x28_2 < (y250.length : Int)
                · rw [if_pos c23] at H
                  have c23b0 : decide (x28_2 < (y250.length : Int)) = true := decide_eq_true c23
                  clear c23
                  obtain ⟨y257, hy257⟩ : ∃ y_ : List ByteArray, y_ = (([] : List ByteArray)) := ⟨_, rfl⟩
                  replace H : (if y257.length + x5_2.length < 8796093022208 then ((some (y257 ++ x5_2 : List ByteArray)).bind fun y260 => (impl_Forms.l1 k2 l0 x5_2 (rdOf false y250 x28_2) y250 (y250.length : Int) x28_2 y260 (y260.length : Int) 0 a1_0 a1_1)) else (none)) = some r := by first | (rw [hy257]; with_reducible exact H) | (have H2_ := (Option.bind_some _ _).symm.trans H; rw [hy257]; with_reducible exact H2_) | (have H2_ := (Option.bind_some _ _).symm.trans H; with_reducible exact H2_) | with_reducible exact H | (rw [hy257]; exact H) | exact H
                  have Ny257 := Aside0.mk hy257
                  clear hy257
                  by_cases c24 : y257.length + x5_2.length < 8796093022208
                  · rw [if_pos c24] at H
                    have LMc24 := Aside0.mk c24
                    clear c24
                    obtain ⟨y260, hy260⟩ : ∃ y_ : List ByteArray, y_ = (y257 ++ x5_2) := ⟨_, rfl⟩
                    replace H : (impl_Forms.l1 k2 l0 x5_2 (rdOf false y250 x28_2) y250 (y250.length : Int) x28_2 y260 (y260.length : Int) 0 a1_0 a1_1) = some r := by first | (rw [hy260]; with_reducible exact H) | (have H2_ := (Option.bind_some _ _).symm.trans H; rw [hy260]; with_reducible exact H2_) | (have H2_ := (Option.bind_some _ _).symm.trans H; with_reducible exact H2_) | with_reducible exact H | (rw [hy260]; exact H) | exact H
                    have Ny260 := Aside0.mk hy260
                    clear hy260
                    have H' := Aside0.mk H
                    clear H
                    have p256 : 0 ≤ (x28_2 : Int) := of_decide_eq_true (by first | (with_reducible assumption) | assumption)
                    have q256 : x28_2 < (y250.length : Int) := of_decide_eq_true (by first | (with_reducible assumption) | assumption)
                    obtain ⟨ad256, e256, hx256_0⟩ := Kd.at_bool (Kd.R_reads' HO_26.out).2.2 x28_2 p256 q256
                    cases e256
                    replace p256 := eq_true p256
                    replace q256 := eq_true q256
                    go_wp2_with (first | ((with_reducible refine gate_dst (N := 32) rfl ?_); refine Kd.R_lit Kd.string _ 9 ?hg (N := 32) ?hd (xs := ([] : List ByteArray)) (inner := []) (ok := fun _ => True) (okp := fun _ => True) ?hr ?hp (fun _ hk => hk) trivial (Below.refl _ _) (Nat.le_refl _) (by simp) ?_; (case hd => rfl); (case hg => rfl); (case hr => first | (go_simp; done) | (go_simp; rfl)); (case hp => exact (Reps.none _ _)); intro v258 w25 ho26 hb hg_ hnew_; clear hg_ hnew_; (first | rw [← Ny257.out] at ho26 | (simp only [Int.reduceToNat] at ho26; rw [← Ny257.out] at ho26) | (simp only [Int.toNat_natCast] at ho26; rw [← Ny257.out] at ho26)); have n0_ := Aside0.mk (Kd.R_elder' (by (with_reducible repeat (first | apply Kd.R_alloc | apply Kd.R_drewN | apply Kd.R_drew)); exact HO_5.out) (Kd.R_base ho26) hb); have n1_ := Aside0.mk (Kd.R_below (by (with_reducible repeat (first | apply Kd.R_alloc | apply Kd.R_drewN | apply Kd.R_drew)); exact HO_26.out) hb); have n2_ := Aside0.mk (Kd.R_lower (Kd.R_new' ho26 (Kd.R_lt (by (with_reducible repeat (first | apply Kd.R_alloc | apply Kd.R_drewN | apply Kd.R_drew)); exact HO_5.out))) (below_size (by repeat (first | (with_reducible first | exact HB.out | apply below_alloc | apply pw_below_drewN | apply below_drew1 | refine below_set ?_ GE241.out) | exact HB.out)))); have n3_ := Aside0.mk (blk_below (g := gb241) (o := .cells #[.string a1_0, .string a1_1] 31 (0, 0)) (by (with_reducible repeat (first | refine blk_drewN ?_ _ | refine blk_drew ?_ | refine blk_alloc ?_ _)); exact BK241.out) hb); have n4_ := Aside0.mk (below_step (by repeat (first | (with_reducible first | exact HB.out | apply below_alloc | apply pw_below_drewN | apply below_drew1 | refine below_set ?_ GE241.out) | exact HB.out)) hb); clear HO_5; clear HO_26; clear BK241; clear HB; have HO_5 := n0_; have HO_26 := n1_; have HO259 := n2_; have BK241 := n3_; have HB := n4_; clear n0_ n1_ n2_ n3_ n4_; clear hb ho26; obtain ⟨Ao28, co28, eo28⟩ := Kd.R_slice HO_5.out; subst eo28) | ((with_reducible refine gate_builtin (b := .append) (xs := #[.tmp 32, .tmp 33]) rfl ?_); at_builtin; refine Kd.R_append_rows Kd.string (w0 := w) w.heap.size rfl (.tmp 32) (.tmp 33) 27 9 (.string ⟨#[]⟩) 16 rfl Try.underlying27 info9 rfl (by decide) (by omega) v258 y257 x5_2 _ _ _ (fun k_ => some k_ ≠ (.slice Ao28 x5_2.length co28 : Value).ownBlock) (fun _ => False) rfl rfl ?aO ?aR (fun _ _ h => h) (fun _ h => h.elim) ?aF ?aB ?aS ?aL ?_; (case aR => repeat (first | exact (Kd.R_reads' HO_5.out).2.2 | (with_reducible refine Kd.C_alloc ?_ _) | (with_reducible refine Kd.C_drewN ?_ _) | (with_reducible refine Kd.C_drew ?_))); (case aB => exact (by repeat (first | (with_reducible first | exact HB.out | apply below_alloc | apply pw_below_drewN | apply below_drew1 | refine below_set ?_ GE241.out) | exact HB.out))); (case aF => exact (fun k_ hk => Kd.fresh' (Kd.R_lt (by (with_reducible repeat (first | apply Kd.R_alloc | apply Kd.R_drewN | apply Kd.R_drew)); exact HO_5.out)) k_ hk)); (case aO => exact (by (with_reducible repeat (first | apply Kd.R_alloc | apply Kd.R_drewN | apply Kd.R_drew)); exact Kd.R_mono HO259.out (fun _ hk => hk.2))); (case aS => exact (below_size (by repeat (first | (with_reducible first | exact HB.out | apply below_alloc | apply pw_below_drewN | apply below_drew1 | refine below_set ?_ GE241.out) | exact HB.out)))); (case aL => have := LMc24.out; omega); intro v261 w27 ho hb hg hat; rw [← Ny260.out] at ho; have n0_ := Aside0.mk (Kd.R_after (ok := (fun _ => True)) (by (with_reducible repeat (first | apply Kd.R_alloc | apply Kd.R_drewN | apply Kd.R_drew)); exact HO_5.out) hg hat); have n1_ := Aside0.mk (Kd.R_over' (by (with_reducible repeat (first | apply Kd.R_alloc | apply Kd.R_drewN | apply Kd.R_drew)); exact HO_26.out) (Kd.R_typed (by (with_reducible repeat (first | apply Kd.R_alloc | apply Kd.R_drewN | apply Kd.R_drew)); exact HO259.out)) (by decide) hg); have n2_ := Aside0.mk (blk_grown (g := gb241) (o := .cells #[.string a1_0, .string a1_1] 31 (0, 0)) (by (with_reducible repeat (first | refine blk_drewN ?_ _ | refine blk_drew ?_ | refine blk_alloc ?_ _)); exact BK241.out) hg (Kd.R_ne HO259.out BK241.out (by decide))); have n3_ := Aside0.mk (hb); have n4_ := Aside0.mk (ho); clear HO_5; clear HO_26; clear BK241; clear HB; clear HO259; have HO_5 := n0_; have HO_26 := n1_; have BK241 := n2_; have HB := n3_; have HO262 := n4_; clear n0_ n1_ n2_ n3_ n4_; clear ho hb hg hat; obtain ⟨Ao29, co29, eo29⟩ := Kd.R_slice HO262.out; subst eo29))
                    go_loopg [5, 36] k2 (fun kq v5 v36 w' => ∃ (x5_3 : List ByteArray) (x36_3 : Int), v36 = .int .i64 x36_3 ∧ Aside0 (impl_Forms.l1 kq l0 x5_3 (rdOf false y250 x28_2) y250 (y250.length : Int) x28_2 y260 (y260.length : Int) x36_3 a1_0 a1_1 = some r) ∧ Aside0 (kq ≤ k2) ∧ Aside0 (Kd.R Kd.string 9 w' w.heap.size (fun k_ => some k_ ≠ ((.slice Ao29 y260.length co29) : Value).ownBlock) v5 x5_3) ∧ Aside0 (Kd.R Kd.bool 4 w' w.heap.size (fun _ => True) (.slice (some ad256) y250.length co20) y250) ∧ Aside0 (Kd.R Kd.string 9 w' w.heap.size (fun k_ => some k_ ≠ (v5 : Value).ownBlock) (.slice Ao29 y260.length co29) y260) ∧ Aside0 (w'.heap[gb241]? = some (.cells #[.string a1_0, .string a1_1] 31 (0, 0))) ∧ Aside0 (Below w.heap.size w w'))
                    case atStart => exact ⟨(x5_2), (0), (by first | rfl | (simp; done) | (simp [*]; done)), H', ⟨Nat.le_refl _⟩, ⟨by (with_reducible repeat (first | apply Kd.R_alloc | apply Kd.R_drewN | apply Kd.R_drew)); exact Kd.R_mono HO_5.out (fun _ hk => hk.2)⟩, ⟨by (with_reducible repeat (first | apply Kd.R_alloc | apply Kd.R_drewN | apply Kd.R_drew)); exact HO_26.out⟩, ⟨by (with_reducible repeat (first | apply Kd.R_alloc | apply Kd.R_drewN | apply Kd.R_drew)); exact HO262.out⟩, ⟨by (with_reducible repeat (first | refine blk_drewN ?_ _ | refine blk_drew ?_ | refine blk_alloc ?_ _)); exact BK241.out⟩, ⟨by repeat (first | (with_reducible first | exact HB.out | apply below_alloc | apply pw_below_drewN | apply below_drew1 | refine below_set ?_ GE241.out) | exact HB.out)⟩⟩
                    case round =>
                      clear H'
                      try clear c1
                      try clear c2
                      try clear p2
                      try clear q2
                      try clear hx2
                      try clear c5
                      try clear c6
                      try clear c12
                      try clear c20
                      try clear c21
                      try clear c21b0
                      try clear c22
                      try clear c22b0
                      try clear c23
                      try clear c23b0
                      try clear c24
                      try clear p25
                      try clear q25
                      try clear hx25
                      try clear hcz15_0
                      try clear hcz15_1
                      try clear hcz9_0
                      try clear hcz9_1
                      try clear hfz15_0
                      try clear hfz15_1
                      try clear hfz9_0
                      try clear hfz9_1
                      try clear hx256_0
                      try clear p2
                      try clear p256
                      try clear q256
                      obtain ⟨x5_3, x36_3, rfl, HA, HK3, HO_5, HO_26, HO_34, BK241, HB⟩ := hrel
                      cases gk with
                      | zero => exact absurd HA.out (by simp [impl_Forms.l1])
                      | succ k3 =>
                        have H := HA.out
                        clear HA
                        simp only [impl_Forms.l1] at H
                        by_cases c30 : x36_3 < (y260.length : Int)
                        · rw [if_pos c30] at H
                          have c30b0 : decide (x36_3 < (y260.length : Int)) = true := decide_eq_true c30
                          clear c30
                          by_cases c31 : 0 ≤ x36_3
                          · rw [if_pos c31] at H
                            have c31b0 : decide (0 ≤ x36_3) = true := decide_eq_true c31
                            clear c31
                            by_cases c32 : x36_3 < (y260.length : Int)
                            · rw [if_pos c32] at H
                              have c32b0 : decide (x36_3 < (y260.length : Int)) = true := decide_eq_true c32
                              clear c32
                              have H' := Aside0.mk H
                              clear H
                              have p263 : 0 ≤ (x36_3 : Int) := of_decide_eq_true (by first | (with_reducible assumption) | assumption)
                              have q263 : x36_3 < (y260.length : Int) := of_decide_eq_true (by first | (with_reducible assumption) | assumption)
                              obtain ⟨ad263, e263, hx263_0⟩ := Kd.at_string (Kd.R_reads' HO_34.out).2.2 x36_3 p263 q263
                              cases e263
                              replace p263 := eq_true p263
                              replace q263 := eq_true q263
                              go_wp2
                              go_loopg [5, 42] k3 (fun kq v5 v42 w' => ∃ (x5_4 : List ByteArray) (x42_4 : Int), v42 = .int .i64 x42_4 ∧ Aside0 (impl_Forms.l2 kq l0 x5_4 (rdOf false y250 x28_2) (rdOf ByteArray.empty y260 x36_3) y250 (y250.length : Int) x28_2 y260 (y260.length : Int) x36_3 l0 (l0.length : Int) x42_4 a1_0 a1_1 = some r) ∧ Aside0 (kq ≤ k3) ∧ Aside0 (Kd.R Kd.string 9 w' w.heap.size (fun k_ => some k_ ≠ ((.slice (some ad263) y260.length co29) : Value).ownBlock) v5 x5_4) ∧ Aside0 (Kd.R Kd.bool 4 w' w.heap.size (fun _ => True) (.slice (some ad256) y250.length co20) y250) ∧ Aside0 (Kd.R Kd.string 9 w' w.heap.size (fun k_ => some k_ ≠ (v5 : Value).ownBlock) (.slice (some ad263) y260.length co29) y260) ∧ Aside0 (w'.heap[gb241]? = some (.cells #[.string a1_0, .string a1_1] 31 (0, 0))) ∧ Aside0 (Below w.heap.size w w'))
                              case atStart => exact ⟨(x5_3), (0), (by first | rfl | (simp; done) | (simp [*]; done)), H', ⟨Nat.le_refl _⟩, ⟨by (with_reducible repeat (first | apply Kd.R_alloc | apply Kd.R_drewN | apply Kd.R_drew)); exact HO_5.out⟩, ⟨by (with_reducible repeat (first | apply Kd.R_alloc | apply Kd.R_drewN | apply Kd.R_drew)); exact HO_26.out⟩, ⟨by (with_reducible repeat (first | apply Kd.R_alloc | apply Kd.R_drewN | apply Kd.R_drew)); exact HO_34.out⟩, ⟨by (with_reducible repeat (first | refine blk_drewN ?_ _ | refine blk_drew ?_ | refine blk_alloc ?_ _)); exact BK241.out⟩, ⟨by repeat (first | (with_reducible first | exact HB.out | apply below_alloc | apply pw_below_drewN | apply below_drew1 | refine below_set ?_ GE241.out) | exact HB.out)⟩⟩
                              case round =>
                                clear H'
                                try clear c1
                                try clear c2
                                try clear p2
                                try clear q2
                                try clear hx2
                                try clear c3
                                try clear c5
                                try clear c6
                                try clear c12
                                try clear c20
                                try clear c21
                                try clear c21b0
                                try clear c22
                                try clear c22b0
                                try clear c23
                                try clear c23b0
                                try clear c24
                                try clear p25
                                try clear q25
                                try clear hx25
                                try clear p26
                                try clear q26
                                try clear hx26
                                try clear c30
                                try clear c30b0
                                try clear c31
                                try clear c31b0
                                try clear c32
                                try clear c32b0
                                try clear hcz15_0
                                try clear hcz15_1
                                try clear hcz9_0
                                try clear hcz9_1
                                try clear hfz15_0
                                try clear hfz15_1
                                try clear hfz9_0
                                try clear hfz9_1
                                try clear hx256_0
                                try clear hx263_0
                                try clear p2
                                try clear p25
                                try clear p256
                                try clear p263
                                try clear q2
                                try clear q25
                                try clear q256
                                try clear q263
                                obtain ⟨x5_4, x42_4, rfl, HA, HK4, HO_5, HO_26, HO_34, BK241, HB⟩ := hrel
                                cases gk with
                                | zero => exact absurd HA.out (by simp [impl_Forms.l2])
                                | succ k4 =>
                                  have H := HA.out
                                  clear HA
                                  simp only [impl_Forms.l2] at H
                                  by_cases c33 : x42_4 < (l0.length : Int)
                                  · rw [if_pos c33] at H
                                    have c33b0 : decide (x42_4 < (l0.length : Int)) = true := decide_eq_true c33
                                    clear c33
                                    by_cases c34 : 0 ≤ x42_4
                                    · rw [if_pos c34] at H
                                      have c34b0 : decide (0 ≤ x42_4) = true := decide_eq_true c34
                                      clear c34
                                      by_cases c35 : x42_4 < (l0.length : Int)
                                      · rw [if_pos c35] at H
                                        have c35b0 : decide (x42_4 < (l0.length : Int)) = true := decide_eq_true c35
                                        clear c35
                                        have HC36 := Aside0.mk H
                                        clear H
                                        have p264 : 0 ≤ (x42_4 : Int) := of_decide_eq_true (by first | (with_reducible assumption) | assumption)
                                        have q264 : x42_4 < (l0.length : Int) := of_decide_eq_true (by first | (with_reducible assumption) | assumption)
                                        obtain ⟨ad264, e264, hx264_0, hx264_1, hx264_2, hx264_3, hx264_4⟩ := at_T44 HR0.out x42_4 p264 q264
                                        cases e264
                                        replace hx264_0 := (HB.out.cell (World.block_lt_of_cell? w _ hx264_0)).trans hx264_0
                                        replace hx264_1 := (HB.out.cell (World.block_lt_of_cell? w _ hx264_1)).trans hx264_1
                                        replace hx264_2 := (HB.out.cell (World.block_lt_of_cell? w _ hx264_2)).trans hx264_2
                                        replace hx264_3 := (HB.out.cell (World.block_lt_of_cell? w _ hx264_3)).trans hx264_3
                                        replace hx264_4 := (HB.out.cell (World.block_lt_of_cell? w _ hx264_4)).trans hx264_4
                                        replace p264 := eq_true p264
                                        replace q264 := eq_true q264
                                        go_upto_region 13 with (first | ((with_reducible refine gate_dst (N := 11) rfl ?_); refine box_event ?hg (N := 11) ?hd (cs := #[.string (⟨#[]⟩ : ByteArray), .bool false, .string (⟨#[]⟩ : ByteArray), .string (⟨#[]⟩ : ByteArray), .string (⟨#[]⟩ : ByteArray)]) (t := 44) ?hr ?_; (case hd => rfl); (case hg => rfl); (case hr => first | (go_simp; done) | (go_simp; rfl)); intro gb265 hg w37 hbox hb; have n0_ := Aside0.mk (Kd.R_below (by (with_reducible repeat (first | apply Kd.R_alloc | apply Kd.R_drewN | apply Kd.R_drew)); exact HO_5.out) hb); have n1_ := Aside0.mk (Kd.R_below (by (with_reducible repeat (first | apply Kd.R_alloc | apply Kd.R_drewN | apply Kd.R_drew)); exact HO_26.out) hb); have n2_ := Aside0.mk (Kd.R_below (by (with_reducible repeat (first | apply Kd.R_alloc | apply Kd.R_drewN | apply Kd.R_drew)); exact HO_34.out) hb); have n3_ := Aside0.mk (blk_below (g := gb241) (o := .cells #[.string a1_0, .string a1_1] 31 (0, 0)) (by (with_reducible repeat (first | refine blk_drewN ?_ _ | refine blk_drew ?_ | refine blk_alloc ?_ _)); exact BK241.out) hb); have n4_ := Aside0.mk (below_step (by repeat (first | (with_reducible first | exact HB.out | apply below_alloc | apply pw_below_drewN | apply below_drew1 | refine below_set ?_ GE241.out) | exact HB.out)) hb); have n5_ := Aside0.mk (hbox); have n6_ := Aside0.mk ((by rw [hg]; exact (below_size (by repeat (first | (with_reducible first | exact HB.out | apply below_alloc | apply pw_below_drewN | apply below_drew1 | refine below_set ?_ GE241.out) | exact HB.out))) : w.heap.size ≤ gb265)); have n7_ := Aside0.mk ((by rw [hg]; exact (below_size (by repeat (first | (with_reducible first | exact HB.out | apply below_alloc | apply pw_below_drewN | apply below_drew1 | refine below_set ?_ GE241.out) | exact HB.out))) : w.heap.size ≤ gb265)); have n8_ := Aside0.mk ((by rw [hg]; exact Nat.ne_of_lt (blk_lt (g := gb241) (o := .cells #[.string a1_0, .string a1_1] 31 (0, 0)) (by (with_reducible repeat (first | refine blk_drewN ?_ _ | refine blk_drew ?_ | refine blk_alloc ?_ _)); exact BK241.out)) : gb241 ≠ gb265)); have n9_ := Aside0.mk ((by rw [hg]; exact Nat.ne_of_gt (blk_lt (g := gb241) (o := .cells #[.string a1_0, .string a1_1] 31 (0, 0)) (by (with_reducible repeat (first | refine blk_drewN ?_ _ | refine blk_drew ?_ | refine blk_alloc ?_ _)); exact BK241.out)) : gb265 ≠ gb241)); clear HO_5; clear HO_26; clear HO_34; clear BK241; clear HB; have HO_5 := n0_; have HO_26 := n1_; have HO_34 := n2_; have BK241 := n3_; have HB := n4_; have BK265 := n5_; have GW265 := n6_; have GE265 := n7_; have NB241_265 := n8_; have NB265_241 := n9_; clear n0_ n1_ n2_ n3_ n4_ n5_ n6_ n7_ n8_ n9_; clear hb hbox hg; have hnb38 := NB265_241.out; have hnc38 := NB241_265.out; have hcz39_0 : w37.cell? ⟨gb265, 0, none⟩ = some (.string (⟨#[]⟩ : ByteArray)) := (blk_cell BK265.out 0).trans rfl; have hcz39_1 : w37.cell? ⟨gb265, 1, none⟩ = some (.bool false) := (blk_cell BK265.out 1).trans rfl; have hcz39_2 : w37.cell? ⟨gb265, 2, none⟩ = some (.string (⟨#[]⟩ : ByteArray)) := (blk_cell BK265.out 2).trans rfl; have hcz39_3 : w37.cell? ⟨gb265, 3, none⟩ = some (.string (⟨#[]⟩ : ByteArray)) := (blk_cell BK265.out 3).trans rfl; have hcz39_4 : w37.cell? ⟨gb265, 4, none⟩ = some (.string (⟨#[]⟩ : ByteArray)) := (blk_cell BK265.out 4).trans rfl; have hfz39_0 := blk_frozen BK265.out 0; have hfz39_1 := blk_frozen BK265.out 1; have hfz39_2 := blk_frozen BK265.out 2; have hfz39_3 := blk_frozen BK265.out 3; have hfz39_4 := blk_frozen BK265.out 4))
                                        (try simp only [Act.put, List.setIfInBounds_toArray, List.set_cons_zero, List.set_cons_succ])
                                        go_cut [57] (fun v57 wc => ∃ (kq : Nat) (x57_35 : Bool), v57 = .bool x57_35 ∧ Aside0 (impl_Forms.j4 kq l0 x5_4 (rdOf false y250 x28_2) (rdOf ByteArray.empty y260 x36_3) y250 (y250.length : Int) x28_2 y260 (y260.length : Int) x36_3 l0 (l0.length : Int) x42_4 x57_35 a1_0 a1_1 ((rd_T44 l0 x42_4).f0) ((rd_T44 l0 x42_4).f1) ((rd_T44 l0 x42_4).f2) ((rd_T44 l0 x42_4).f3) ((rd_T44 l0 x42_4).f4) = some r) ∧ Aside0 (kq ≤ k4) ∧ Aside0 (Kd.R Kd.string 9 wc w.heap.size (fun k_ => some k_ ≠ ((.slice (some ad263) y260.length co29) : Value).ownBlock) u5 x5_4) ∧ Aside0 (Kd.R Kd.bool 4 wc w.heap.size (fun _ => True) (.slice (some ad256) y250.length co20) y250) ∧ Aside0 (Kd.R Kd.string 9 wc w.heap.size (fun k_ => some k_ ≠ (u5 : Value).ownBlock) (.slice (some ad263) y260.length co29) y260) ∧ Aside0 (wc.heap[gb241]? = some (.cells #[.string a1_0, .string a1_1] 31 (0, 0))) ∧ Aside0 (wc.heap[gb265]? = some (.cells #[.string ((rd_T44 l0 x42_4).f0), .bool ((rd_T44 l0 x42_4).f1), .string ((rd_T44 l0 x42_4).f2), .string ((rd_T44 l0 x42_4).f3), .string ((rd_T44 l0 x42_4).f4)] 44 (0, 0))) ∧ Aside0 (Below w.heap.size w wc))
                                        case first =>
                                          have H := HC36.out
                                          clear HC36
                                          by_cases c40 : (((rd_T44 l0 x42_4).f1) != (rdOf false y250 x28_2)) = true
                                          · rw [if_pos c40] at H
                                            have c40b0 : (((rd_T44 l0 x42_4).f1) != (rdOf false y250 x28_2)) = true := c40
                                            (try (have c40b1 : decide (((rd_T44 l0 x42_4).f1) = (rdOf false y250 x28_2)) = false := by simpa using c40))
                                            (try (have c40b2 : (((rd_T44 l0 x42_4).f1) == (rdOf false y250 x28_2)) = false := by simpa using c40))
                                            (try (have c40b3 : ¬ (((rd_T44 l0 x42_4).f1) = (rdOf false y250 x28_2)) := by simpa using c40))
                                            clear c40
                                            (first | rw [c40b0] | (simp only [i64_w, i32_w]; rw [c40b0]) | skip)
                                            have H' := Aside0.mk H
                                            clear H
                                            have hnb41 := NB265_241.out
                                            have hnc41 := NB241_265.out
                                            have hcz42_0 : w37.cell? ⟨gb265, 0, none⟩ = some (.string (⟨#[]⟩ : ByteArray)) := (blk_cell BK265.out 0).trans rfl
                                            have hcz42_1 : w37.cell? ⟨gb265, 1, none⟩ = some (.bool false) := (blk_cell BK265.out 1).trans rfl
                                            have hcz42_2 : w37.cell? ⟨gb265, 2, none⟩ = some (.string (⟨#[]⟩ : ByteArray)) := (blk_cell BK265.out 2).trans rfl
                                            have hcz42_3 : w37.cell? ⟨gb265, 3, none⟩ = some (.string (⟨#[]⟩ : ByteArray)) := (blk_cell BK265.out 3).trans rfl
                                            have hcz42_4 : w37.cell? ⟨gb265, 4, none⟩ = some (.string (⟨#[]⟩ : ByteArray)) := (blk_cell BK265.out 4).trans rfl
                                            have hfz42_0 := blk_frozen BK265.out 0
                                            have hfz42_1 := blk_frozen BK265.out 1
                                            have hfz42_2 := blk_frozen BK265.out 2
                                            have hfz42_3 := blk_frozen BK265.out 3
                                            have hfz42_4 := blk_frozen BK265.out 4
                                            go_wp2
                                            go_meet
                                            case rel => exact ⟨_, (true), (by first | rfl | (simp; done) | (simp [*]; done)), H', ⟨by have := HJ2.out; have := HK2.out; have := HK3.out; have := HK4.out; first | omega | exact Nat.le_refl _⟩, ⟨by (with_reducible repeat (first | apply Kd.R_alloc | apply Kd.R_drewN | apply Kd.R_drew)); exact Kd.R_mono (Kd.R_far (p := ⟨gb265, 4, none⟩) (Kd.R_far (p := ⟨gb265, 3, none⟩) (Kd.R_far (p := ⟨gb265, 2, none⟩) (Kd.R_far (p := ⟨gb265, 1, none⟩) (Kd.R_far (p := ⟨gb265, 0, none⟩) (Kd.R_types HO_5.out BK265.out (by decide)) (fun _ hk => hk.2) (.string ((rd_T44 l0 x42_4).f0))) (fun _ hk => hk.2) (.bool ((rd_T44 l0 x42_4).f1))) (fun _ hk => hk.2) (.string ((rd_T44 l0 x42_4).f2))) (fun _ hk => hk.2) (.string ((rd_T44 l0 x42_4).f3))) (fun _ hk => hk.2) (.string ((rd_T44 l0 x42_4).f4))) (fun _ hk => hk.1)⟩, ⟨by (with_reducible repeat (first | apply Kd.R_alloc | apply Kd.R_drewN | apply Kd.R_drew)); exact Kd.R_mono (Kd.R_far (p := ⟨gb265, 4, none⟩) (Kd.R_far (p := ⟨gb265, 3, none⟩) (Kd.R_far (p := ⟨gb265, 2, none⟩) (Kd.R_far (p := ⟨gb265, 1, none⟩) (Kd.R_far (p := ⟨gb265, 0, none⟩) (Kd.R_types HO_26.out BK265.out (by decide)) (fun _ hk => hk.2) (.string ((rd_T44 l0 x42_4).f0))) (fun _ hk => hk.2) (.bool ((rd_T44 l0 x42_4).f1))) (fun _ hk => hk.2) (.string ((rd_T44 l0 x42_4).f2))) (fun _ hk => hk.2) (.string ((rd_T44 l0 x42_4).f3))) (fun _ hk => hk.2) (.string ((rd_T44 l0 x42_4).f4))) (fun _ hk => trivial)⟩, ⟨by (with_reducible repeat (first | apply Kd.R_alloc | apply Kd.R_drewN | apply Kd.R_drew)); exact Kd.R_mono (Kd.R_far (p := ⟨gb265, 4, none⟩) (Kd.R_far (p := ⟨gb265, 3, none⟩) (Kd.R_far (p := ⟨gb265, 2, none⟩) (Kd.R_far (p := ⟨gb265, 1, none⟩) (Kd.R_far (p := ⟨gb265, 0, none⟩) (Kd.R_types HO_34.out BK265.out (by decide)) (fun _ hk => hk.2) (.string ((rd_T44 l0 x42_4).f0))) (fun _ hk => hk.2) (.bool ((rd_T44 l0 x42_4).f1))) (fun _ hk => hk.2) (.string ((rd_T44 l0 x42_4).f2))) (fun _ hk => hk.2) (.string ((rd_T44 l0 x42_4).f3))) (fun _ hk => hk.2) (.string ((rd_T44 l0 x42_4).f4))) (fun _ hk => hk.1)⟩, ⟨by (with_reducible repeat (first | refine blk_drewN ?_ _ | refine blk_drew ?_ | refine blk_alloc ?_ _)); refine blk_far ?_ NB241_265.out _; (with_reducible repeat (first | refine blk_drewN ?_ _ | refine blk_drew ?_ | refine blk_alloc ?_ _)); refine blk_far ?_ NB241_265.out _; (with_reducible repeat (first | refine blk_drewN ?_ _ | refine blk_drew ?_ | refine blk_alloc ?_ _)); refine blk_far ?_ NB241_265.out _; (with_reducible repeat (first | refine blk_drewN ?_ _ | refine blk_drew ?_ | refine blk_alloc ?_ _)); refine blk_far ?_ NB241_265.out _; (with_reducible repeat (first | refine blk_drewN ?_ _ | refine blk_drew ?_ | refine blk_alloc ?_ _)); refine blk_far ?_ NB241_265.out _; (with_reducible repeat (first | refine blk_drewN ?_ _ | refine blk_drew ?_ | refine blk_alloc ?_ _)); exact BK241.out⟩, ⟨by (with_reducible repeat (first | refine blk_drewN ?_ _ | refine blk_drew ?_ | refine blk_alloc ?_ _)); refine blk_put (cs := #[.string ((rd_T44 l0 x42_4).f0), .bool ((rd_T44 l0 x42_4).f1), .string ((rd_T44 l0 x42_4).f2), .string ((rd_T44 l0 x42_4).f3), .string (⟨#[]⟩ : ByteArray)]) ?_ 4 _ rfl; (with_reducible repeat (first | refine blk_drewN ?_ _ | refine blk_drew ?_ | refine blk_alloc ?_ _)); refine blk_put (cs := #[.string ((rd_T44 l0 x42_4).f0), .bool ((rd_T44 l0 x42_4).f1), .string ((rd_T44 l0 x42_4).f2), .string (⟨#[]⟩ : ByteArray), .string (⟨#[]⟩ : ByteArray)]) ?_ 3 _ rfl; (with_reducible repeat (first | refine blk_drewN ?_ _ | refine blk_drew ?_ | refine blk_alloc ?_ _)); refine blk_put (cs := #[.string ((rd_T44 l0 x42_4).f0), .bool ((rd_T44 l0 x42_4).f1), .string (⟨#[]⟩ : ByteArray), .string (⟨#[]⟩ : ByteArray), .string (⟨#[]⟩ : ByteArray)]) ?_ 2 _ rfl; (with_reducible repeat (first | refine blk_drewN ?_ _ | refine blk_drew ?_ | refine blk_alloc ?_ _)); refine blk_put (cs := #[.string ((rd_T44 l0 x42_4).f0), .bool false, .string (⟨#[]⟩ : ByteArray), .string (⟨#[]⟩ : ByteArray), .string (⟨#[]⟩ : ByteArray)]) ?_ 1 _ rfl; (with_reducible repeat (first | refine blk_drewN ?_ _ | refine blk_drew ?_ | refine blk_alloc ?_ _)); refine blk_put (cs := #[.string (⟨#[]⟩ : ByteArray), .bool false, .string (⟨#[]⟩ : ByteArray), .string (⟨#[]⟩ : ByteArray), .string (⟨#[]⟩ : ByteArray)]) ?_ 0 _ rfl; (with_reducible repeat (first | refine blk_drewN ?_ _ | refine blk_drew ?_ | refine blk_alloc ?_ _)); exact BK265.out⟩, ⟨by repeat (first | (with_reducible first | exact HB.out | apply below_alloc | apply pw_below_drewN | apply below_drew1 | refine below_set ?_ GE241.out | refine below_set ?_ GE265.out) | exact HB.out)⟩⟩
                                          · rw [if_neg c40] at H
                                            have c40b0 : (((rd_T44 l0 x42_4).f1) != (rdOf false y250 x28_2)) = false := by simpa using c40
                                            (try (have c40b1 : decide (((rd_T44 l0 x42_4).f1) = (rdOf false y250 x28_2)) = true := by simpa using c40))
                                            (try (have c40b2 : (((rd_T44 l0 x42_4).f1) == (rdOf false y250 x28_2)) = true := by simpa using c40))
                                            clear c40
                                            (first | rw [c40b0] | (simp only [i64_w, i32_w]; rw [c40b0]) | skip)
                                            replace H := Option.bind_eq_some_iff.mp H
                                            obtain ⟨t266, A430, H⟩ := H
                                            replace H : (impl_Forms.j4 k4 l0 x5_4 (rdOf false y250 x28_2) (rdOf ByteArray.empty y260 x36_3) y250 (y250.length : Int) x28_2 y260 (y260.length : Int) x36_3 l0 (l0.length : Int) x42_4 (!t266) a1_0 a1_1 ((rd_T44 l0 x42_4).f0) ((rd_T44 l0 x42_4).f1) ((rd_T44 l0 x42_4).f2) ((rd_T44 l0 x42_4).f3) ((rd_T44 l0 x42_4).f4)) = some r := H
                                            have A43 := Aside0.mk A430
                                            clear A430
                                            have H' := Aside0.mk H
                                            clear H
                                            have hnb44 := NB265_241.out
                                            have hnc44 := NB241_265.out
                                            have hcz45_0 : w37.cell? ⟨gb265, 0, none⟩ = some (.string (⟨#[]⟩ : ByteArray)) := (blk_cell BK265.out 0).trans rfl
                                            have hcz45_1 : w37.cell? ⟨gb265, 1, none⟩ = some (.bool false) := (blk_cell BK265.out 1).trans rfl
                                            have hcz45_2 : w37.cell? ⟨gb265, 2, none⟩ = some (.string (⟨#[]⟩ : ByteArray)) := (blk_cell BK265.out 2).trans rfl
                                            have hcz45_3 : w37.cell? ⟨gb265, 3, none⟩ = some (.string (⟨#[]⟩ : ByteArray)) := (blk_cell BK265.out 3).trans rfl
                                            have hcz45_4 : w37.cell? ⟨gb265, 4, none⟩ = some (.string (⟨#[]⟩ : ByteArray)) := (blk_cell BK265.out 4).trans rfl
                                            have hfz45_0 := blk_frozen BK265.out 0
                                            have hfz45_1 := blk_frozen BK265.out 1
                                            have hfz45_2 := blk_frozen BK265.out 2
                                            have hfz45_3 := blk_frozen BK265.out 3
                                            have hfz45_4 := blk_frozen BK265.out 4
                                            have hcz46_0 : w37.cell? ⟨gb241, 0, none⟩ = some (.string a1_0) := (blk_cell BK241.out 0).trans rfl
                                            have hcz46_1 : w37.cell? ⟨gb241, 1, none⟩ = some (.string a1_1) := (blk_cell BK241.out 1).trans rfl
                                            have hfz46_0 := blk_frozen BK241.out 0
                                            have hfz46_1 := blk_frozen BK241.out 1
                                            go_wp2_with (first | (go_at_call 59; (with_reducible refine (strings_Contains.calls a1_1 ((rd_T44 l0 x42_4).f0) t266 _ A43.out).mono ?_); rintro e w' ⟨rfl, ⟨nd, rfl⟩⟩))
                                            go_meet
                                            case rel => exact ⟨_, (!t266), (by first | rfl | (simp; done) | (simp [*]; done)), H', ⟨by have := HJ2.out; have := HK2.out; have := HK3.out; have := HK4.out; first | omega | exact Nat.le_refl _⟩, ⟨by (with_reducible repeat (first | apply Kd.R_alloc | apply Kd.R_drewN | apply Kd.R_drew)); exact Kd.R_mono (Kd.R_far (p := ⟨gb265, 4, none⟩) (Kd.R_far (p := ⟨gb265, 3, none⟩) (Kd.R_far (p := ⟨gb265, 2, none⟩) (Kd.R_far (p := ⟨gb265, 1, none⟩) (Kd.R_far (p := ⟨gb265, 0, none⟩) (Kd.R_types HO_5.out BK265.out (by decide)) (fun _ hk => hk.2) (.string ((rd_T44 l0 x42_4).f0))) (fun _ hk => hk.2) (.bool ((rd_T44 l0 x42_4).f1))) (fun _ hk => hk.2) (.string ((rd_T44 l0 x42_4).f2))) (fun _ hk => hk.2) (.string ((rd_T44 l0 x42_4).f3))) (fun _ hk => hk.2) (.string ((rd_T44 l0 x42_4).f4))) (fun _ hk => hk.1)⟩, ⟨by (with_reducible repeat (first | apply Kd.R_alloc | apply Kd.R_drewN | apply Kd.R_drew)); exact Kd.R_mono (Kd.R_far (p := ⟨gb265, 4, none⟩) (Kd.R_far (p := ⟨gb265, 3, none⟩) (Kd.R_far (p := ⟨gb265, 2, none⟩) (Kd.R_far (p := ⟨gb265, 1, none⟩) (Kd.R_far (p := ⟨gb265, 0, none⟩) (Kd.R_types HO_26.out BK265.out (by decide)) (fun _ hk => hk.2) (.string ((rd_T44 l0 x42_4).f0))) (fun _ hk => hk.2) (.bool ((rd_T44 l0 x42_4).f1))) (fun _ hk => hk.2) (.string ((rd_T44 l0 x42_4).f2))) (fun _ hk => hk.2) (.string ((rd_T44 l0 x42_4).f3))) (fun _ hk => hk.2) (.string ((rd_T44 l0 x42_4).f4))) (fun _ hk => trivial)⟩, ⟨by (with_reducible repeat (first | apply Kd.R_alloc | apply Kd.R_drewN | apply Kd.R_drew)); exact Kd.R_mono (Kd.R_far (p := ⟨gb265, 4, none⟩) (Kd.R_far (p := ⟨gb265, 3, none⟩) (Kd.R_far (p := ⟨gb265, 2, none⟩) (Kd.R_far (p := ⟨gb265, 1, none⟩) (Kd.R_far (p := ⟨gb265, 0, none⟩) (Kd.R_types HO_34.out BK265.out (by decide)) (fun _ hk => hk.2) (.string ((rd_T44 l0 x42_4).f0))) (fun _ hk => hk.2) (.bool ((rd_T44 l0 x42_4).f1))) (fun _ hk => hk.2) (.string ((rd_T44 l0 x42_4).f2))) (fun _ hk => hk.2) (.string ((rd_T44 l0 x42_4).f3))) (fun _ hk => hk.2) (.string ((rd_T44 l0 x42_4).f4))) (fun _ hk => hk.1)⟩, ⟨by (with_reducible repeat (first | refine blk_drewN ?_ _ | refine blk_drew ?_ | refine blk_alloc ?_ _)); refine blk_far ?_ NB241_265.out _; (with_reducible repeat (first | refine blk_drewN ?_ _ | refine blk_drew ?_ | refine blk_alloc ?_ _)); refine blk_far ?_ NB241_265.out _; (with_reducible repeat (first | refine blk_drewN ?_ _ | refine blk_drew ?_ | refine blk_alloc ?_ _)); refine blk_far ?_ NB241_265.out _; (with_reducible repeat (first | refine blk_drewN ?_ _ | refine blk_drew ?_ | refine blk_alloc ?_ _)); refine blk_far ?_ NB241_265.out _; (with_reducible repeat (first | refine blk_drewN ?_ _ | refine blk_drew ?_ | refine blk_alloc ?_ _)); refine blk_far ?_ NB241_265.out _; (with_reducible repeat (first | refine blk_drewN ?_ _ | refine blk_drew ?_ | refine blk_alloc ?_ _)); exact BK241.out⟩, ⟨by (with_reducible repeat (first | refine blk_drewN ?_ _ | refine blk_drew ?_ | refine blk_alloc ?_ _)); refine blk_put (cs := #[.string ((rd_T44 l0 x42_4).f0), .bool ((rd_T44 l0 x42_4).f1), .string ((rd_T44 l0 x42_4).f2), .string ((rd_T44 l0 x42_4).f3), .string (⟨#[]⟩ : ByteArray)]) ?_ 4 _ rfl; (with_reducible repeat (first | refine blk_drewN ?_ _ | refine blk_drew ?_ | refine blk_alloc ?_ _)); refine blk_put (cs := #[.string ((rd_T44 l0 x42_4).f0), .bool ((rd_T44 l0 x42_4).f1), .string ((rd_T44 l0 x42_4).f2), .string (⟨#[]⟩ : ByteArray), .string (⟨#[]⟩ : ByteArray)]) ?_ 3 _ rfl; (with_reducible repeat (first | refine blk_drewN ?_ _ | refine blk_drew ?_ | refine blk_alloc ?_ _)); refine blk_put (cs := #[.string ((rd_T44 l0 x42_4).f0), .bool ((rd_T44 l0 x42_4).f1), .string (⟨#[]⟩ : ByteArray), .string (⟨#[]⟩ : ByteArray), .string (⟨#[]⟩ : ByteArray)]) ?_ 2 _ rfl; (with_reducible repeat (first | refine blk_drewN ?_ _ | refine blk_drew ?_ | refine blk_alloc ?_ _)); refine blk_put (cs := #[.string ((rd_T44 l0 x42_4).f0), .bool false, .string (⟨#[]⟩ : ByteArray), .string (⟨#[]⟩ : ByteArray), .string (⟨#[]⟩ : ByteArray)]) ?_ 1 _ rfl; (with_reducible repeat (first | refine blk_drewN ?_ _ | refine blk_drew ?_ | refine blk_alloc ?_ _)); refine blk_put (cs := #[.string (⟨#[]⟩ : ByteArray), .bool false, .string (⟨#[]⟩ : ByteArray), .string (⟨#[]⟩ : ByteArray), .string (⟨#[]⟩ : ByteArray)]) ?_ 0 _ rfl; (with_reducible repeat (first | refine blk_drewN ?_ _ | refine blk_drew ?_ | refine blk_alloc ?_ _)); exact BK265.out⟩, ⟨by repeat (first | (with_reducible first | exact HB.out | apply below_alloc | apply pw_below_drewN | apply below_drew1 | refine below_set ?_ GE241.out | refine below_set ?_ GE265.out) | exact HB.out)⟩⟩
                                        case rest =>
                                          clear HC36
                                          try clear c1
                                          try clear c2
                                          try clear p2
                                          try clear q2
                                          try clear hx2
                                          try clear c3
                                          try clear c4
                                          try clear c5
                                          try clear c6
                                          try clear c12
                                          try clear c20
                                          try clear c21
                                          try clear c21b0
                                          try clear c22
                                          try clear c22b0
                                          try clear c23
                                          try clear c23b0
                                          try clear c24
                                          try clear p25
                                          try clear q25
                                          try clear hx25
                                          try clear p26
                                          try clear q26
                                          try clear hx26
                                          try clear c30
                                          try clear c30b0
                                          try clear c31
                                          try clear c31b0
                                          try clear c32
                                          try clear c32b0
                                          try clear c33
                                          try clear c33b0
                                          try clear c34
                                          try clear c34b0
                                          try clear c35
                                          try clear c35b0
                                          try clear c38
                                          try clear c40
                                          try clear c40b0
                                          try clear c40b1
                                          try clear c40b2
                                          try clear c41
                                          try clear c44
                                          try clear hcz15_0
                                          try clear hcz15_1
                                          try clear hcz39_0
                                          try clear hcz39_1
                                          try clear hcz39_2
                                          try clear hcz39_3
                                          try clear hcz39_4
                                          try clear hcz42_0
                                          try clear hcz42_1
                                          try clear hcz42_2
                                          try clear hcz42_3
                                          try clear hcz42_4
                                          try clear hcz45_0
                                          try clear hcz45_1
                                          try clear hcz45_2
                                          try clear hcz45_3
                                          try clear hcz45_4
                                          try clear hcz46_0
                                          try clear hcz46_1
                                          try clear hcz9_0
                                          try clear hcz9_1
                                          try clear hfz15_0
                                          try clear hfz15_1
                                          try clear hfz39_0
                                          try clear hfz39_1
                                          try clear hfz39_2
                                          try clear hfz39_3
                                          try clear hfz39_4
                                          try clear hfz42_0
                                          try clear hfz42_1
                                          try clear hfz42_2
                                          try clear hfz42_3
                                          try clear hfz42_4
                                          try clear hfz45_0
                                          try clear hfz45_1
                                          try clear hfz45_2
                                          try clear hfz45_3
                                          try clear hfz45_4
                                          try clear hfz46_0
                                          try clear hfz46_1
                                          try clear hfz9_0
                                          try clear hfz9_1
                                          try clear hx256_0
                                          try clear hx263_0
                                          try clear hx264_0
                                          try clear hx264_1
                                          try clear hx264_2
                                          try clear hx264_3
                                          try clear hx264_4
                                          try clear p2
                                          try clear p25
                                          try clear p256
                                          try clear p26
                                          try clear p263
                                          try clear p264
                                          try clear q2
                                          try clear q25
                                          try clear q256
                                          try clear q26
                                          try clear q263
                                          try clear q264
                                          obtain ⟨kq, x57_35, rfl, HA, HJ35, HO_5, HO_26, HO_34, BK241, BK265, HB⟩ := hcut
                                          cases kq with
                                          | zero => exact absurd HA.out (by simp [impl_Forms.j4])
                                          | succ kj35 =>
                                            have H := HA.out
                                            clear HA
                                            simp only [impl_Forms.j4] at H
                                            by_cases c47 : x57_35 = true
                                            · subst c47
                                              have H1 : (impl_Forms.l2 kj35 l0 x5_4 (rdOf false y250 x28_2) (rdOf ByteArray.empty y260 x36_3) y250 (y250.length : Int) x28_2 y260 (y260.length : Int) x36_3 l0 (l0.length : Int) (wrap64 (x42_4 + 1)) a1_0 a1_1) = some r := by rw [if_pos rfl] at H; exact H
                                              clear H
                                              have H := H1
                                              clear H1
                                              have H' := Aside0.mk H
                                              clear H
                                              go_wp2
                                              go_roundg kj35
                                              case measure => have := HJ2.out; have := HK2.out; have := HK3.out; have := HK4.out; have := HJ35.out; omega
                                              case rel => exact ⟨(x5_4), (wrap64 (x42_4 + 1)), (by first | rfl | (simp; done) | (simp [*]; done)), H', ⟨by have := HJ2.out; have := HK2.out; have := HK3.out; have := HK4.out; have := HJ35.out; omega⟩, ⟨by (with_reducible repeat (first | apply Kd.R_alloc | apply Kd.R_drewN | apply Kd.R_drew)); exact HO_5.out⟩, ⟨by (with_reducible repeat (first | apply Kd.R_alloc | apply Kd.R_drewN | apply Kd.R_drew)); exact HO_26.out⟩, ⟨by (with_reducible repeat (first | apply Kd.R_alloc | apply Kd.R_drewN | apply Kd.R_drew)); exact HO_34.out⟩, ⟨by (with_reducible repeat (first | refine blk_drewN ?_ _ | refine blk_drew ?_ | refine blk_alloc ?_ _)); exact BK241.out⟩, ⟨by repeat (first | (with_reducible first | exact HB.out | apply below_alloc | apply pw_below_drewN | apply below_drew1 | refine below_set ?_ GE241.out | refine below_set ?_ GE265.out) | exact HB.out)⟩⟩
                                            · replace c47 := Bool.eq_false_iff.mpr c47
                                              subst c47
                                              have H1 : (if (rdOf false y250 x28_2) = true then (impl_Forms.j5 kj35 l0 x5_4 (rdOf false y250 x28_2) (rdOf ByteArray.empty y260 x36_3) y250 (y250.length : Int) x28_2 y260 (y260.length : Int) x36_3 l0 (l0.length : Int) x42_4 true a1_0 a1_1 ((rd_T44 l0 x42_4).f0) ((rd_T44 l0 x42_4).f1) ((rd_T44 l0 x42_4).f2) ((rd_T44 l0 x42_4).f3) ((rd_T44 l0 x42_4).f4)) else (impl_Forms.j5 kj35 l0 x5_4 (rdOf false y250 x28_2) (rdOf ByteArray.empty y260 x36_3) y250 (y250.length : Int) x28_2 y260 (y260.length : Int) x36_3 l0 (l0.length : Int) x42_4 ((rdOf ByteArray.empty y260 x36_3).toList == a1_0.toList) a1_0 a1_1 ((rd_T44 l0 x42_4).f0) ((rd_T44 l0 x42_4).f1) ((rd_T44 l0 x42_4).f2) ((rd_T44 l0 x42_4).f3) ((rd_T44 l0 x42_4).f4))) = some r := by rw [if_neg (show ¬ (false = true) by decide)] at H; exact H
                                              clear H
                                              have H := H1
                                              clear H1
                                              have HC48 := Aside0.mk H
                                              clear H
                                              go_upto_region 14 with (fail)
                                              go_cut [64] (fun v64 wc => ∃ (kq : Nat) (x64_47 : Bool), v64 = .bool x64_47 ∧ Aside0 (impl_Forms.j5 kq l0 x5_4 (rdOf false y250 x28_2) (rdOf ByteArray.empty y260 x36_3) y250 (y250.length : Int) x28_2 y260 (y260.length : Int) x36_3 l0 (l0.length : Int) x42_4 x64_47 a1_0 a1_1 ((rd_T44 l0 x42_4).f0) ((rd_T44 l0 x42_4).f1) ((rd_T44 l0 x42_4).f2) ((rd_T44 l0 x42_4).f3) ((rd_T44 l0 x42_4).f4) = some r) ∧ Aside0 (kq ≤ kj35) ∧ Aside0 (Kd.R Kd.string 9 wc w.heap.size (fun k_ => some k_ ≠ ((.slice (some ad263) y260.length co29) : Value).ownBlock) u5 x5_4) ∧ Aside0 (Kd.R Kd.bool 4 wc w.heap.size (fun _ => True) (.slice (some ad256) y250.length co20) y250) ∧ Aside0 (Kd.R Kd.string 9 wc w.heap.size (fun k_ => some k_ ≠ (u5 : Value).ownBlock) (.slice (some ad263) y260.length co29) y260) ∧ Aside0 (wc.heap[gb241]? = some (.cells #[.string a1_0, .string a1_1] 31 (0, 0))) ∧ Aside0 (wc.heap[gb265]? = some (.cells #[.string ((rd_T44 l0 x42_4).f0), .bool ((rd_T44 l0 x42_4).f1), .string ((rd_T44 l0 x42_4).f2), .string ((rd_T44 l0 x42_4).f3), .string ((rd_T44 l0 x42_4).f4)] 44 (0, 0))) ∧ Aside0 (Below w.heap.size w wc))
                                              case first =>
                                                have H := HC48.out
                                                clear HC48
                                                obtain ⟨bq49, hbq49⟩ : ∃ b_ : Bool, b_ = (rdOf false y250 x28_2) := ⟨_, rfl⟩
                                                replace H : (if (bq49) = true then (impl_Forms.j5 kj35 l0 x5_4 (bq49) (rdOf ByteArray.empty y260 x36_3) y250 (y250.length : Int) x28_2 y260 (y260.length : Int) x36_3 l0 (l0.length : Int) x42_4 true a1_0 a1_1 ((rd_T44 l0 x42_4).f0) ((rd_T44 l0 x42_4).f1) ((rd_T44 l0 x42_4).f2) ((rd_T44 l0 x42_4).f3) ((rd_T44 l0 x42_4).f4)) else (impl_Forms.j5 kj35 l0 x5_4 (bq49) (rdOf ByteArray.empty y260 x36_3) y250 (y250.length : Int) x28_2 y260 (y260.length : Int) x36_3 l0 (l0.length : Int) x42_4 ((rdOf ByteArray.empty y260 x36_3).toList == a1_0.toList) a1_0 a1_1 ((rd_T44 l0 x42_4).f0) ((rd_T44 l0 x42_4).f1) ((rd_T44 l0 x42_4).f2) ((rd_T44 l0 x42_4).f3) ((rd_T44 l0 x42_4).f4))) = some r := by rw [← hbq49] at H; exact H
                                                have Nbq49 := Aside0.mk hbq49
                                                clear hbq49
                                                (try rw [← Nbq49.out])
                                                by_cases c50 : (bq49) = true
                                                · rw [if_pos c50] at H
                                                  have c50b0 : (bq49) = true := c50
                                                  have e7_ : rdOf false y250 x28_2 = true := Nbq49.out.symm.trans c50b0
                                                  subst c50b0
                                                  simp only [e7_] at *
                                                  clear c50
                                                  have H' := Aside0.mk H
                                                  clear H
                                                  go_wp2
                                                  go_meet
                                                  case rel => exact ⟨_, (true), (by first | rfl | (simp; done) | (simp [*]; done)), H', ⟨by have := HJ2.out; have := HK2.out; have := HK3.out; have := HK4.out; have := HJ35.out; first | omega | exact Nat.le_refl _⟩, ⟨by (with_reducible repeat (first | apply Kd.R_alloc | apply Kd.R_drewN | apply Kd.R_drew)); exact HO_5.out⟩, ⟨by (with_reducible repeat (first | apply Kd.R_alloc | apply Kd.R_drewN | apply Kd.R_drew)); exact HO_26.out⟩, ⟨by (with_reducible repeat (first | apply Kd.R_alloc | apply Kd.R_drewN | apply Kd.R_drew)); exact HO_34.out⟩, ⟨by (with_reducible repeat (first | refine blk_drewN ?_ _ | refine blk_drew ?_ | refine blk_alloc ?_ _)); exact BK241.out⟩, ⟨by (with_reducible repeat (first | refine blk_drewN ?_ _ | refine blk_drew ?_ | refine blk_alloc ?_ _)); exact BK265.out⟩, ⟨by repeat (first | (with_reducible first | exact HB.out | apply below_alloc | apply pw_below_drewN | apply below_drew1 | refine below_set ?_ GE241.out | refine below_set ?_ GE265.out) | exact HB.out)⟩⟩
                                                · rw [if_neg c50] at H
                                                  have c50b0 : (bq49) = false := by simpa using c50
                                                  have e7_ : rdOf false y250 x28_2 = false := Nbq49.out.symm.trans c50b0
                                                  subst c50b0
                                                  simp only [e7_] at *
                                                  clear c50
                                                  have H' := Aside0.mk H
                                                  clear H
                                                  have hnb51 := NB241_265.out
                                                  have hnc51 := NB265_241.out
                                                  have hcz52_0 : wc.cell? ⟨gb241, 0, none⟩ = some (.string a1_0) := (blk_cell BK241.out 0).trans rfl
                                                  have hcz52_1 : wc.cell? ⟨gb241, 1, none⟩ = some (.string a1_1) := (blk_cell BK241.out 1).trans rfl
                                                  have hfz52_0 := blk_frozen BK241.out 0
                                                  have hfz52_1 := blk_frozen BK241.out 1
                                                  go_wp2
                                                  go_meet
                                                  case rel => exact ⟨_, (((rdOf ByteArray.empty y260 x36_3).toList == a1_0.toList)), (by first | rfl | (simp; done) | (simp [*]; done)), H', ⟨by have := HJ2.out; have := HK2.out; have := HK3.out; have := HK4.out; have := HJ35.out; first | omega | exact Nat.le_refl _⟩, ⟨by (with_reducible repeat (first | apply Kd.R_alloc | apply Kd.R_drewN | apply Kd.R_drew)); exact HO_5.out⟩, ⟨by (with_reducible repeat (first | apply Kd.R_alloc | apply Kd.R_drewN | apply Kd.R_drew)); exact HO_26.out⟩, ⟨by (with_reducible repeat (first | apply Kd.R_alloc | apply Kd.R_drewN | apply Kd.R_drew)); exact HO_34.out⟩, ⟨by (with_reducible repeat (first | refine blk_drewN ?_ _ | refine blk_drew ?_ | refine blk_alloc ?_ _)); exact BK241.out⟩, ⟨by (with_reducible repeat (first | refine blk_drewN ?_ _ | refine blk_drew ?_ | refine blk_alloc ?_ _)); exact BK265.out⟩, ⟨by repeat (first | (with_reducible first | exact HB.out | apply below_alloc | apply pw_below_drewN | apply below_drew1 | refine below_set ?_ GE241.out | refine below_set ?_ GE265.out) | exact HB.out)⟩⟩
                                              case rest =>
                                                clear HC48
                                                try clear c1
                                                try clear c2
                                                try clear p2
                                                try clear q2
                                                try clear hx2
                                                try clear c3
                                                try clear c4
                                                try clear q4
                                                try clear c5
                                                try clear c6
                                                try clear p6
                                                try clear c12
                                                try clear c20
                                                try clear c21
                                                try clear c21b0
                                                try clear c22
                                                try clear c22b0
                                                try clear c23
                                                try clear c23b0
                                                try clear c24
                                                try clear p25
                                                try clear q25
                                                try clear hx25
                                                try clear p26
                                                try clear q26
                                                try clear hx26
                                                try clear c30
                                                try clear c30b0
                                                try clear c31
                                                try clear c31b0
                                                try clear c32
                                                try clear c32b0
                                                try clear c33
                                                try clear c33b0
                                                try clear c34
                                                try clear c34b0
                                                try clear c35
                                                try clear c35b0
                                                try clear c38
                                                try clear c40
                                                try clear c40b0
                                                try clear c40b1
                                                try clear c40b2
                                                try clear c41
                                                try clear c44
                                                try clear c47
                                                try clear q49
                                                try clear c50
                                                try clear c50b0
                                                try clear c51
                                                try clear hcz15_0
                                                try clear hcz15_1
                                                try clear hcz39_0
                                                try clear hcz39_1
                                                try clear hcz39_2
                                                try clear hcz39_3
                                                try clear hcz39_4
                                                try clear hcz42_0
                                                try clear hcz42_1
                                                try clear hcz42_2
                                                try clear hcz42_3
                                                try clear hcz42_4
                                                try clear hcz45_0
                                                try clear hcz45_1
                                                try clear hcz45_2
                                                try clear hcz45_3
                                                try clear hcz45_4
                                                try clear hcz46_0
                                                try clear hcz46_1
                                                try clear hcz52_0
                                                try clear hcz52_1
                                                try clear hcz9_0
                                                try clear hcz9_1
                                                try clear hfz15_0
                                                try clear hfz15_1
                                                try clear hfz39_0
                                                try clear hfz39_1
                                                try clear hfz39_2
                                                try clear hfz39_3
                                                try clear hfz39_4
                                                try clear hfz42_0
                                                try clear hfz42_1
                                                try clear hfz42_2
                                                try clear hfz42_3
                                                try clear hfz42_4
                                                try clear hfz45_0
                                                try clear hfz45_1
                                                try clear hfz45_2
                                                try clear hfz45_3
                                                try clear hfz45_4
                                                try clear hfz46_0
                                                try clear hfz46_1
                                                try clear hfz52_0
                                                try clear hfz52_1
                                                try clear hfz9_0
                                                try clear hfz9_1
                                                try clear hx256_0
                                                try clear hx263_0
                                                try clear hx264_0
                                                try clear hx264_1
                                                try clear hx264_2
                                                try clear hx264_3
                                                try clear hx264_4
                                                try clear p2
                                                try clear p25
                                                try clear p256
                                                try clear p26
                                                try clear p263
                                                try clear p264
                                                try clear q2
                                                try clear q25
                                                try clear q256
                                                try clear q26
                                                try clear q263
                                                try clear q264
                                                obtain ⟨kq, x64_47, rfl, HA, HJ47, HO_5, HO_26, HO_34, BK241, BK265, HB⟩ := hcut
                                                cases kq with
                                                | zero => exact absurd HA.out (by simp [impl_Forms.j5])
                                                | succ kj47 =>
                                                  have H := HA.out
                                                  clear HA
                                                  simp only [impl_Forms.j5] at H
                                                  by_cases c53 : x64_47 = true
                                                  · subst c53
                                                    have H1 : ((impl_AffixDo.f kj47 ((rd_T44 l0 x42_4).f0) ((rd_T44 l0 x42_4).f1) ((rd_T44 l0 x42_4).f2) ((rd_T44 l0 x42_4).f3) ((rd_T44 l0 x42_4).f4) (rdOf ByteArray.empty y260 x36_3)).bind fun bt267 => (if bt267.2 = true then (if x5_4.length < 8796093022208 then (impl_Forms.l2 kj47 l0 (x5_4 ++ [bt267.1]) (rdOf false y250 x28_2) (rdOf ByteArray.empty y260 x36_3) y250 (y250.length : Int) x28_2 y260 (y260.length : Int) x36_3 l0 (l0.length : Int) (wrap64 (x42_4 + 1)) a1_0 a1_1) else (none)) else (impl_Forms.l2 kj47 l0 x5_4 (rdOf false y250 x28_2) (rdOf ByteArray.empty y260 x36_3) y250 (y250.length : Int) x28_2 y260 (y260.length : Int) x36_3 l0 (l0.length : Int) (wrap64 (x42_4 + 1)) a1_0 a1_1))) = some r := by rw [if_pos rfl] at H; exact H
                                                    clear H
                                                    have H := H1
                                                    clear H1
                                                    replace H := Option.bind_eq_some_iff.mp H
                                                    obtain ⟨⟨t267, t268⟩, A540, H⟩ := H
                                                    replace H : (if t268 = true then (if x5_4.length < 8796093022208 then (impl_Forms.l2 kj47 l0 (x5_4 ++ [t267]) (rdOf false y250 x28_2) (rdOf ByteArray.empty y260 x36_3) y250 (y250.length : Int) x28_2 y260 (y260.length : Int) x36_3 l0 (l0.length : Int) (wrap64 (x42_4 + 1)) a1_0 a1_1) else (none)) else (impl_Forms.l2 kj47 l0 x5_4 (rdOf false y250 x28_2) (rdOf ByteArray.empty y260 x36_3) y250 (y250.length : Int) x28_2 y260 (y260.length : Int) x36_3 l0 (l0.length : Int) (wrap64 (x42_4 + 1)) a1_0 a1_1)) = some r := H
                                                    have A54 := Aside0.mk A540
                                                    clear A540
                                                    by_cases c55 : t268 = true
                                                    · subst c55
                                                      have H1 : (if x5_4.length < 8796093022208 then (impl_Forms.l2 kj47 l0 (x5_4 ++ [t267]) (rdOf false y250 x28_2) (rdOf ByteArray.empty y260 x36_3) y250 (y250.length : Int) x28_2 y260 (y260.length : Int) x36_3 l0 (l0.length : Int) (wrap64 (x42_4 + 1)) a1_0 a1_1) else (none)) = some r := by rw [if_pos rfl] at H; exact H
                                                      clear H
                                                      have H := H1
                                                      clear H1
                                                      by_cases c56 : x5_4.length < 8796093022208
                                                      · rw [if_pos c56] at H
                                                        have LMc56 := Aside0.mk c56
                                                        clear c56
                                                        obtain ⟨y269, hy269⟩ : ∃ y_ : List ByteArray, y_ = (x5_4 ++ [t267]) := ⟨_, rfl⟩
                                                        replace H : (impl_Forms.l2 kj47 l0 y269 (rdOf false y250 x28_2) (rdOf ByteArray.empty y260 x36_3) y250 (y250.length : Int) x28_2 y260 (y260.length : Int) x36_3 l0 (l0.length : Int) (wrap64 (x42_4 + 1)) a1_0 a1_1) = some r := by first | (rw [hy269]; with_reducible exact H) | (have H2_ := (Option.bind_some _ _).symm.trans H; rw [hy269]; with_reducible exact H2_) | (have H2_ := (Option.bind_some _ _).symm.trans H; with_reducible exact H2_) | with_reducible exact H | (rw [hy269]; exact H) | exact H
                                                        have Ny269 := Aside0.mk hy269
                                                        clear hy269
                                                        have H' := Aside0.mk H
                                                        clear H
                                                        have hnb57 := NB265_241.out
                                                        have hnc57 := NB241_265.out
                                                        have hcz58_0 : wc.cell? ⟨gb265, 0, none⟩ = some (.string ((rd_T44 l0 x42_4).f0)) := (blk_cell BK265.out 0).trans rfl
                                                        have hcz58_1 : wc.cell? ⟨gb265, 1, none⟩ = some (.bool ((rd_T44 l0 x42_4).f1)) := (blk_cell BK265.out 1).trans rfl
                                                        have hcz58_2 : wc.cell? ⟨gb265, 2, none⟩ = some (.string ((rd_T44 l0 x42_4).f2)) := (blk_cell BK265.out 2).trans rfl
                                                        have hcz58_3 : wc.cell? ⟨gb265, 3, none⟩ = some (.string ((rd_T44 l0 x42_4).f3)) := (blk_cell BK265.out 3).trans rfl
                                                        have hcz58_4 : wc.cell? ⟨gb265, 4, none⟩ = some (.string ((rd_T44 l0 x42_4).f4)) := (blk_cell BK265.out 4).trans rfl
                                                        have hfz58_0 := blk_frozen BK265.out 0
                                                        have hfz58_1 := blk_frozen BK265.out 1
                                                        have hfz58_2 := blk_frozen BK265.out 2
                                                        have hfz58_3 := blk_frozen BK265.out 3
                                                        have hfz58_4 := blk_frozen BK265.out 4
                                                        go_wp2_with (first | ((with_reducible refine gate_callee (f := 28) rfl ?_); refine goesL_ (some 68) rfl rfl Try.func28 (by kernel_rfl) rfl #[.agg #[.string ((rd_T44 l0 x42_4).f0), .bool ((rd_T44 l0 x42_4).f1), .string ((rd_T44 l0 x42_4).f2), .string ((rd_T44 l0 x42_4).f3), .string ((rd_T44 l0 x42_4).f4)], .string (rdOf ByteArray.empty y260 x36_3)] rfl (by (try simp only [List.map_toArray, List.map_cons, List.map_nil]); first | done | rfl | (simp only [List.length_drop, List.length_take]; rfl)) ?_; (with_reducible refine (impl_AffixDo.calls kj47 ((rd_T44 l0 x42_4).f0) ((rd_T44 l0 x42_4).f1) ((rd_T44 l0 x42_4).f2) ((rd_T44 l0 x42_4).f3) ((rd_T44 l0 x42_4).f4) (rdOf ByteArray.empty y260 x36_3) t267 true _ A54.out).mono ?_); rintro e w59 ⟨rfl, hb⟩; refine ⟨_, rfl, ?_⟩; have n0_ := Aside0.mk (Kd.R_below (by (with_reducible repeat (first | apply Kd.R_alloc | apply Kd.R_drewN | apply Kd.R_drew)); exact HO_5.out) hb); have n1_ := Aside0.mk (Kd.R_below (by (with_reducible repeat (first | apply Kd.R_alloc | apply Kd.R_drewN | apply Kd.R_drew)); exact HO_26.out) hb); have n2_ := Aside0.mk (Kd.R_below (by (with_reducible repeat (first | apply Kd.R_alloc | apply Kd.R_drewN | apply Kd.R_drew)); exact HO_34.out) hb); have n3_ := Aside0.mk (blk_below (g := gb241) (o := .cells #[.string a1_0, .string a1_1] 31 (0, 0)) (by (with_reducible repeat (first | refine blk_drewN ?_ _ | refine blk_drew ?_ | refine blk_alloc ?_ _)); exact BK241.out) hb); have n4_ := Aside0.mk (blk_below (g := gb265) (o := .cells #[.string ((rd_T44 l0 x42_4).f0), .bool ((rd_T44 l0 x42_4).f1), .string ((rd_T44 l0 x42_4).f2), .string ((rd_T44 l0 x42_4).f3), .string ((rd_T44 l0 x42_4).f4)] 44 (0, 0)) (by (with_reducible repeat (first | refine blk_drewN ?_ _ | refine blk_drew ?_ | refine blk_alloc ?_ _)); exact BK265.out) hb); have n5_ := Aside0.mk (below_step (by repeat (first | (with_reducible first | exact HB.out | apply below_alloc | apply pw_below_drewN | apply below_drew1 | refine below_set ?_ GE241.out | refine below_set ?_ GE265.out) | exact HB.out)) hb); clear HO_5; clear HO_26; clear HO_34; clear BK241; clear BK265; clear HB; have HO_5 := n0_; have HO_26 := n1_; have HO_34 := n2_; have BK241 := n3_; have BK265 := n4_; have HB := n5_; clear n0_ n1_ n2_ n3_ n4_ n5_; (try clear hb); (try clear hb2); (try clear hk); (try clear hi)) | ((with_reducible refine gate_builtin (b := .append) (xs := #[.tmp 72, .tmp 74]) rfl ?_); at_builtin; refine Kd.R_append Kd.string (w0 := w) w.heap.size rfl (.tmp 72) (.tmp 74) 27 9 (.string ⟨#[]⟩) 16 rfl Try.underlying27 info9 rfl (by decide) (by omega) u5 x5_4 t267 [.string t267] (fun k_ => some k_ ≠ (.slice (some ad263) y260.length co29 : Value).ownBlock) (fun _ => False) rfl rfl ?aP (fun _ hk => hk.elim) ?aF ?aO ?aB ?aS ?aL ?_; (case aP => exact rfl); (case aB => exact (by repeat (first | (with_reducible first | exact HB.out | apply below_alloc | apply pw_below_drewN | apply below_drew1 | refine below_set ?_ GE241.out | refine below_set ?_ GE265.out) | exact HB.out))); (case aF => exact (fun k_ hk => Kd.fresh' (Kd.R_lt (by (with_reducible repeat (first | apply Kd.R_alloc | apply Kd.R_drewN | apply Kd.R_drew)); exact HO_34.out)) k_ hk)); (case aO => exact (by (with_reducible repeat (first | apply Kd.R_alloc | apply Kd.R_drewN | apply Kd.R_drew)); exact HO_5.out)); (case aS => exact (below_size (by repeat (first | (with_reducible first | exact HB.out | apply below_alloc | apply pw_below_drewN | apply below_drew1 | refine below_set ?_ GE241.out | refine below_set ?_ GE265.out) | exact HB.out)))); (case aL => have := LMc56.out; omega); intro v270 w60 ho hb hg hat; rw [← Ny269.out] at ho; have n0_ := Aside0.mk (Kd.R_over' (by (with_reducible repeat (first | apply Kd.R_alloc | apply Kd.R_drewN | apply Kd.R_drew)); exact HO_26.out) (Kd.R_typed (by (with_reducible repeat (first | apply Kd.R_alloc | apply Kd.R_drewN | apply Kd.R_drew)); exact HO_5.out)) (by decide) hg); have n1_ := Aside0.mk (Kd.R_after (ok := (fun _ => True)) (by (with_reducible repeat (first | apply Kd.R_alloc | apply Kd.R_drewN | apply Kd.R_drew)); exact Kd.R_mono HO_34.out (fun _ hk => ⟨trivial, hk⟩)) hg hat); have n2_ := Aside0.mk (blk_grown (g := gb241) (o := .cells #[.string a1_0, .string a1_1] 31 (0, 0)) (by (with_reducible repeat (first | refine blk_drewN ?_ _ | refine blk_drew ?_ | refine blk_alloc ?_ _)); exact BK241.out) hg (Kd.R_ne HO_5.out BK241.out (by decide))); have n3_ := Aside0.mk (blk_grown (g := gb265) (o := .cells #[.string ((rd_T44 l0 x42_4).f0), .bool ((rd_T44 l0 x42_4).f1), .string ((rd_T44 l0 x42_4).f2), .string ((rd_T44 l0 x42_4).f3), .string ((rd_T44 l0 x42_4).f4)] 44 (0, 0)) (by (with_reducible repeat (first | refine blk_drewN ?_ _ | refine blk_drew ?_ | refine blk_alloc ?_ _)); exact BK265.out) hg (Kd.R_ne HO_5.out BK265.out (by decide))); have n4_ := Aside0.mk (hb); have n5_ := Aside0.mk (ho); clear HO_26; clear HO_34; clear BK241; clear BK265; clear HB; clear HO_5; have HO_26 := n0_; have HO_34 := n1_; have BK241 := n2_; have BK265 := n3_; have HB := n4_; have HO271 := n5_; clear n0_ n1_ n2_ n3_ n4_ n5_; clear ho hb hg hat))
                                                        go_roundg kj47
                                                        case measure => have := HJ2.out; have := HK2.out; have := HK3.out; have := HK4.out; have := HJ35.out; have := HJ47.out; omega
                                                        case rel => exact ⟨(y269), (wrap64 (x42_4 + 1)), (by first | rfl | (simp; done) | (simp [*]; done)), H', ⟨by have := HJ2.out; have := HK2.out; have := HK3.out; have := HK4.out; have := HJ35.out; have := HJ47.out; omega⟩, ⟨by (with_reducible repeat (first | apply Kd.R_alloc | apply Kd.R_drewN | apply Kd.R_drew)); exact HO271.out⟩, ⟨by (with_reducible repeat (first | apply Kd.R_alloc | apply Kd.R_drewN | apply Kd.R_drew)); exact HO_26.out⟩, ⟨by (with_reducible repeat (first | apply Kd.R_alloc | apply Kd.R_drewN | apply Kd.R_drew)); exact Kd.R_mono HO_34.out (fun _ hk => hk.2)⟩, ⟨by (with_reducible repeat (first | refine blk_drewN ?_ _ | refine blk_drew ?_ | refine blk_alloc ?_ _)); exact BK241.out⟩, ⟨by repeat (first | (with_reducible first | exact HB.out | apply below_alloc | apply pw_below_drewN | apply below_drew1 | refine below_set ?_ GE241.out | refine below_set ?_ GE265.out) | exact HB.out)⟩⟩
                                                      · rw [if_neg c56] at H
                                                        exact absurd H (by simp)
                                                    · replace c55 := Bool.eq_false_iff.mpr c55
                                                      subst c55
                                                      have H1 : (impl_Forms.l2 kj47 l0 x5_4 (rdOf false y250 x28_2) (rdOf ByteArray.empty y260 x36_3) y250 (y250.length : Int) x28_2 y260 (y260.length : Int) x36_3 l0 (l0.length : Int) (wrap64 (x42_4 + 1)) a1_0 a1_1) = some r := by rw [if_neg (show ¬ (false = true) by decide)] at H; exact H
                                                      clear H
                                                      have H := H1
                                                      clear H1
                                                      have H' := Aside0.mk H
                                                      clear H
                                                      have hnb61 := NB265_241.out
                                                      have hnc61 := NB241_265.out
                                                      have hcz62_0 : wc.cell? ⟨gb265, 0, none⟩ = some (.string ((rd_T44 l0 x42_4).f0)) := (blk_cell BK265.out 0).trans rfl
                                                      have hcz62_1 : wc.cell? ⟨gb265, 1, none⟩ = some (.bool ((rd_T44 l0 x42_4).f1)) := (blk_cell BK265.out 1).trans rfl
                                                      have hcz62_2 : wc.cell? ⟨gb265, 2, none⟩ = some (.string ((rd_T44 l0 x42_4).f2)) := (blk_cell BK265.out 2).trans rfl
                                                      have hcz62_3 : wc.cell? ⟨gb265, 3, none⟩ = some (.string ((rd_T44 l0 x42_4).f3)) := (blk_cell BK265.out 3).trans rfl
                                                      have hcz62_4 : wc.cell? ⟨gb265, 4, none⟩ = some (.string ((rd_T44 l0 x42_4).f4)) := (blk_cell BK265.out 4).trans rfl
                                                      have hfz62_0 := blk_frozen BK265.out 0
                                                      have hfz62_1 := blk_frozen BK265.out 1
                                                      have hfz62_2 := blk_frozen BK265.out 2
                                                      have hfz62_3 := blk_frozen BK265.out 3
                                                      have hfz62_4 := blk_frozen BK265.out 4
                                                      go_wp2_with (first | ((with_reducible refine gate_callee (f := 28) rfl ?_); refine goesL_ (some 68) rfl rfl Try.func28 (by kernel_rfl) rfl #[.agg #[.string ((rd_T44 l0 x42_4).f0), .bool ((rd_T44 l0 x42_4).f1), .string ((rd_T44 l0 x42_4).f2), .string ((rd_T44 l0 x42_4).f3), .string ((rd_T44 l0 x42_4).f4)], .string (rdOf ByteArray.empty y260 x36_3)] rfl (by (try simp only [List.map_toArray, List.map_cons, List.map_nil]); first | done | rfl | (simp only [List.length_drop, List.length_take]; rfl)) ?_; (with_reducible refine (impl_AffixDo.calls kj47 ((rd_T44 l0 x42_4).f0) ((rd_T44 l0 x42_4).f1) ((rd_T44 l0 x42_4).f2) ((rd_T44 l0 x42_4).f3) ((rd_T44 l0 x42_4).f4) (rdOf ByteArray.empty y260 x36_3) t267 false _ A54.out).mono ?_); rintro e w63 ⟨rfl, hb⟩; refine ⟨_, rfl, ?_⟩; have n0_ := Aside0.mk (Kd.R_below (by (with_reducible repeat (first | apply Kd.R_alloc | apply Kd.R_drewN | apply Kd.R_drew)); exact HO_5.out) hb); have n1_ := Aside0.mk (Kd.R_below (by (with_reducible repeat (first | apply Kd.R_alloc | apply Kd.R_drewN | apply Kd.R_drew)); exact HO_26.out) hb); have n2_ := Aside0.mk (Kd.R_below (by (with_reducible repeat (first | apply Kd.R_alloc | apply Kd.R_drewN | apply Kd.R_drew)); exact HO_34.out) hb); have n3_ := Aside0.mk (blk_below (g := gb241) (o := .cells #[.string a1_0, .string a1_1] 31 (0, 0)) (by (with_reducible repeat (first | refine blk_drewN ?_ _ | refine blk_drew ?_ | refine blk_alloc ?_ _)); exact BK241.out) hb); have n4_ := Aside0.mk (blk_below (g := gb265) (o := .cells #[.string ((rd_T44 l0 x42_4).f0), .bool ((rd_T44 l0 x42_4).f1), .string ((rd_T44 l0 x42_4).f2), .string ((rd_T44 l0 x42_4).f3), .string ((rd_T44 l0 x42_4).f4)] 44 (0, 0)) (by (with_reducible repeat (first | refine blk_drewN ?_ _ | refine blk_drew ?_ | refine blk_alloc ?_ _)); exact BK265.out) hb); have n5_ := Aside0.mk (below_step (by repeat (first | (with_reducible first | exact HB.out | apply below_alloc | apply pw_below_drewN | apply below_drew1 | refine below_set ?_ GE241.out | refine below_set ?_ GE265.out) | exact HB.out)) hb); clear HO_5; clear HO_26; clear HO_34; clear BK241; clear BK265; clear HB; have HO_5 := n0_; have HO_26 := n1_; have HO_34 := n2_; have BK241 := n3_; have BK265 := n4_; have HB := n5_; clear n0_ n1_ n2_ n3_ n4_ n5_; (try clear hb); (try clear hb2); (try clear hk); (try clear hi)))
                                                      go_roundg kj47
                                                      case measure => have := HJ2.out; have := HK2.out; have := HK3.out; have := HK4.out; have := HJ35.out; have := HJ47.out; omega
                                                      case rel => exact ⟨(x5_4), (wrap64 (x42_4 + 1)), (by first | rfl | (simp; done) | (simp [*]; done)), H', ⟨by have := HJ2.out; have := HK2.out; have := HK3.out; have := HK4.out; have := HJ35.out; have := HJ47.out; omega⟩, ⟨by (with_reducible repeat (first | apply Kd.R_alloc | apply Kd.R_drewN | apply Kd.R_drew)); exact HO_5.out⟩, ⟨by (with_reducible repeat (first | apply Kd.R_alloc | apply Kd.R_drewN | apply Kd.R_drew)); exact HO_26.out⟩, ⟨by (with_reducible repeat (first | apply Kd.R_alloc | apply Kd.R_drewN | apply Kd.R_drew)); exact HO_34.out⟩, ⟨by (with_reducible repeat (first | refine blk_drewN ?_ _ | refine blk_drew ?_ | refine blk_alloc ?_ _)); exact BK241.out⟩, ⟨by repeat (first | (with_reducible first | exact HB.out | apply below_alloc | apply pw_below_drewN | apply below_drew1 | refine below_set ?_ GE241.out | refine below_set ?_ GE265.out) | exact HB.out)⟩⟩
                                                  · replace c53 := Bool.eq_false_iff.mpr c53
                                                    subst c53
                                                    have H1 : (impl_Forms.l2 kj47 l0 x5_4 (rdOf false y250 x28_2) (rdOf ByteArray.empty y260 x36_3) y250 (y250.length : Int) x28_2 y260 (y260.length : Int) x36_3 l0 (l0.length : Int) (wrap64 (x42_4 + 1)) a1_0 a1_1) = some r := by rw [if_neg (show ¬ (false = true) by decide)] at H; exact H
                                                    clear H
                                                    have H := H1
                                                    clear H1
                                                    have H' := Aside0.mk H
                                                    clear H
                                                    go_wp2
                                                    go_roundg kj47
                                                    case measure => have := HJ2.out; have := HK2.out; have := HK3.out; have := HK4.out; have := HJ35.out; have := HJ47.out; omega
                                                    case rel => exact ⟨(x5_4), (wrap64 (x42_4 + 1)), (by first | rfl | (simp; done) | (simp [*]; done)), H', ⟨by have := HJ2.out; have := HK2.out; have := HK3.out; have := HK4.out; have := HJ35.out; have := HJ47.out; omega⟩, ⟨by (with_reducible repeat (first | apply Kd.R_alloc | apply Kd.R_drewN | apply Kd.R_drew)); exact HO_5.out⟩, ⟨by (with_reducible repeat (first | apply Kd.R_alloc | apply Kd.R_drewN | apply Kd.R_drew)); exact HO_26.out⟩, ⟨by (with_reducible repeat (first | apply Kd.R_alloc | apply Kd.R_drewN | apply Kd.R_drew)); exact HO_34.out⟩, ⟨by (with_reducible repeat (first | refine blk_drewN ?_ _ | refine blk_drew ?_ | refine blk_alloc ?_ _)); exact BK241.out⟩, ⟨by repeat (first | (with_reducible first | exact HB.out | apply below_alloc | apply pw_below_drewN | apply below_drew1 | refine below_set ?_ GE241.out | refine below_set ?_ GE265.out) | exact HB.out)⟩⟩
                                      · rw [if_neg c35] at H
                                        exact absurd H (by simp)
                                    · rw [if_neg c34] at H
                                      exact absurd H (by simp)
                                  · rw [if_neg c33] at H
                                    have c33b0 : decide (x42_4 < (l0.length : Int)) = false := decide_eq_false c33
                                    clear c33
                                    have H' := Aside0.mk H
                                    clear H
                                    go_wp2
                                    go_roundg k4
                                    case measure => have := HJ2.out; have := HK2.out; have := HK3.out; have := HK4.out; omega
                                    case rel => exact ⟨(x5_4), (wrap64 (x36_3 + 1)), (by first | rfl | (simp; done) | (simp [*]; done)), H', ⟨by have := HJ2.out; have := HK2.out; have := HK3.out; have := HK4.out; omega⟩, ⟨by (with_reducible repeat (first | apply Kd.R_alloc | apply Kd.R_drewN | apply Kd.R_drew)); exact HO_5.out⟩, ⟨by (with_reducible repeat (first | apply Kd.R_alloc | apply Kd.R_drewN | apply Kd.R_drew)); exact HO_26.out⟩, ⟨by (with_reducible repeat (first | apply Kd.R_alloc | apply Kd.R_drewN | apply Kd.R_drew)); exact HO_34.out⟩, ⟨by (with_reducible repeat (first | refine blk_drewN ?_ _ | refine blk_drew ?_ | refine blk_alloc ?_ _)); exact BK241.out⟩, ⟨by repeat (first | (with_reducible first | exact HB.out | apply below_alloc | apply pw_below_drewN | apply below_drew1 | refine below_set ?_ GE241.out) | exact HB.out)⟩⟩
                            · rw [if_neg c32] at H
                              exact absurd H (by simp)
                          · rw [if_neg c31] at H
                            exact absurd H (by simp)
                        · rw [if_neg c30] at H
                          have c30b0 : decide (x36_3 < (y260.length : Int)) = false := decide_eq_false c30
                          clear c30
                          have H' := Aside0.mk H
                          clear H
                          go_wp2
                          go_roundg k3
                          case measure => have := HJ2.out; have := HK2.out; have := HK3.out; omega
                          case rel => exact ⟨(x5_3), (wrap64 (x28_2 + 1)), (by first | rfl | (simp; done) | (simp [*]; done)), H', ⟨by have := HJ2.out; have := HK2.out; have := HK3.out; omega⟩, ⟨by (with_reducible repeat (first | apply Kd.R_alloc | apply Kd.R_drewN | apply Kd.R_drew)); exact Kd.R_mono HO_5.out (fun _ hk => trivial)⟩, ⟨by (with_reducible repeat (first | apply Kd.R_alloc | apply Kd.R_drewN | apply Kd.R_drew)); exact HO_26.out⟩, ⟨by (with_reducible repeat (first | refine blk_drewN ?_ _ | refine blk_drew ?_ | refine blk_alloc ?_ _)); exact BK241.out⟩, ⟨by repeat (first | (with_reducible first | exact HB.out | apply below_alloc | apply pw_below_drewN | apply below_drew1 | refine below_set ?_ GE241.out) | exact HB.out)⟩⟩
                  · rw [if_neg c24] at H
                    exact absurd H (by simp)
                · rw [if_neg c23] at H
                  exact absurd H (by simp)
              · rw [if_neg c22] at H
                exact absurd H (by simp)
            · rw [if_neg c21] at H
              have c21b0 : decide (x28_2 < (y250.length : Int)) = false := decide_eq_false c21
              clear c21
              replace H := Option.bind_eq_some_iff.mp H
              obtain ⟨t253, A640, H⟩ := H
              replace H : (some t253) = some r := H
              have A64 := Aside0.mk A640
              clear A640
              obtain rfl := Option.some.inj H
              obtain ⟨Ao65, co65, eo65⟩ := Kd.R_slice HO_5.out
              subst eo65
              go_wp2_with (first | ((with_reducible refine gate_callee (f := 60) rfl ?_); refine goesL_ (some 80) rfl rfl Try.func60 (by kernel_rfl) rfl #[.slice Ao65 x5_2.length co65] rfl (by (try simp only [List.map_toArray, List.map_cons, List.map_nil]); first | done | rfl | (simp only [List.length_drop, List.length_take]; rfl)) ?_; (with_reducible refine (impl_sorted.calls _ _ x5_2 t253 _ ?side1 ?side2 A64.out).mono ?_); (case side1 => repeat (first | exact (Kd.R_reads' HO_5.out).2.2 | (with_reducible refine Kd.C_alloc ?_ _) | (with_reducible refine Kd.C_drewN ?_ _) | (with_reducible refine Kd.C_drew ?_))); (case side2 => exact (Kd.R_reads' HO_5.out).2.1); rintro e w66 ⟨v254, rfl, ho0, hb⟩; refine ⟨_, rfl, ?_⟩; have n0_ := Aside0.mk (Kd.R_elder' (by (with_reducible repeat (first | apply Kd.R_alloc | apply Kd.R_drewN | apply Kd.R_drew)); exact HO_5.out) (Kd.R_base ho0) hb); have n1_ := Aside0.mk (Kd.R_below (by (with_reducible repeat (first | apply Kd.R_alloc | apply Kd.R_drewN | apply Kd.R_drew)); exact HO_26.out) hb); have n2_ := Aside0.mk (Kd.R_lower (Kd.R_new' ho0 (Kd.R_lt (by (with_reducible repeat (first | apply Kd.R_alloc | apply Kd.R_drewN | apply Kd.R_drew)); exact HO_5.out))) (below_size (by repeat (first | (with_reducible first | exact HB.out | apply below_alloc | apply pw_below_drewN | apply below_drew1 | refine below_set ?_ GE241.out) | exact HB.out)))); have n3_ := Aside0.mk (blk_below (g := gb241) (o := .cells #[.string a1_0, .string a1_1] 31 (0, 0)) (by (with_reducible repeat (first | refine blk_drewN ?_ _ | refine blk_drew ?_ | refine blk_alloc ?_ _)); exact BK241.out) hb); have n4_ := Aside0.mk (below_step (by repeat (first | (with_reducible first | exact HB.out | apply below_alloc | apply pw_below_drewN | apply below_drew1 | refine below_set ?_ GE241.out) | exact HB.out)) hb); clear HO_5; clear HO_26; clear BK241; clear HB; have HO_5 := n0_; have HO_26 := n1_; have HO255 := n2_; have BK241 := n3_; have HB := n4_; clear n0_ n1_ n2_ n3_ n4_; (try clear hb); (try clear hb2); (try clear hk); (try clear hi); (try clear ho0)))
              go_ret
              exact ⟨_, by first | rfl | (simp [errW_none, errW_some] <;> rfl) | (simp [*, errW_none, errW_some] <;> rfl), by (with_reducible repeat (first | apply Kd.R_alloc | apply Kd.R_drewN | apply Kd.R_drew)); exact Kd.R_mono HO255.out (fun _ hk => trivial), by repeat (first | (with_reducible first | exact HB.out | apply below_alloc | apply pw_below_drewN | apply below_drew1 | refine below_set ?_ GE241.out) | exact HB.out)⟩

end Go.Proofs.Ytedfcehhgbeibaa.QFnExactForms
