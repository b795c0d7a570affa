import Derived.Test.YtedfcehhgbeibaaQFnNearBothx0
import Derived.Test.YtedfcehhgbeibaaQFnNearBothx3
namespace Go.Proofs.Ytedfcehhgbeibaa.QFnNearBoth
open Go.RowKit Go.Proofs.YtedfcehhgbeibaaW.PrintWords Go.Proofs.YtedfcehhgbeibaaW.PrintLast Go.Proofs.YtedfcehhgbeibaaW.PrintMore
attribute [local go_sem] max2_int min2_int max_two min_two max_three min_three max_four min_four   -- for this text's walks alone
set_option linter.unusedVariables false
set_option linter.unusedSimpArgs false

/-! ### spec_l1Far: function 88 -/
mutual
def spec_l1Far.l0 : Nat → ByteArray → ByteArray → List (List Int) → Int → Option (Int)
  | 0, _, _, _, _ => none
  | k + 1, x0, x1, x5, x6 => if x6 ≤ (x0.size : Int) then (spec_l1Far.l1 k x0 x1 x5 x6 (([] : List Int)) 0) else (if 0 ≤ (x0.size : Int) then (if (x0.size : Int) < (x5.length : Int) then (if 0 ≤ (x1.size : Int) then (if (x1.size : Int) < ((rd_L3 x5 (x0.size : Int)).length : Int) then (some (rd (rd_L3 x5 (x0.size : Int)) (x1.size : Int))) else (none)) else (none)) else (none)) else (none))
def spec_l1Far.l1 : Nat → ByteArray → ByteArray → List (List Int) → Int → List Int → Int → Option (Int)
  | 0, _, _, _, _, _, _ => none
  | k + 1, x0, x1, x5, x6, x7, x8 => if x8 ≤ (x1.size : Int) then (if x6 = 0 then (if x7.length < 17592186044416 then (spec_l1Far.l1 k x0 x1 x5 x6 (x7 ++ [x8]) (wrap64 (x8 + 1))) else (none)) else (if x8 = 0 then (if x7.length < 17592186044416 then (spec_l1Far.l1 k x0 x1 x5 x6 (x7 ++ [x6]) (wrap64 (x8 + 1))) else (none)) else (if 0 ≤ (wrap64 (x6 - 1)) then (if (wrap64 (x6 - 1)) < (x5.length : Int) then (if 0 ≤ (wrap64 (x8 - 1)) then (if (wrap64 (x8 - 1)) < ((rd_L3 x5 (wrap64 (x6 - 1))).length : Int) then (if (wrap64 (x6 - 1)) < (x0.size : Int) then (if (wrap64 (x8 - 1)) < (x1.size : Int) then (if (bt x0 (wrap64 (x6 - 1))) = (bt x1 (wrap64 (x8 - 1))) then (spec_l1Far.j2 k x0 x1 x5 x6 x7 x8 (rd (rd_L3 x5 (wrap64 (x6 - 1))) (wrap64 (x8 - 1)))) else (spec_l1Far.j2 k x0 x1 x5 x6 x7 x8 (wrap64 ((rd (rd_L3 x5 (wrap64 (x6 - 1))) (wrap64 (x8 - 1))) + 1)))) else (none)) else (none)) else (none)) else (none)) else (none)) else (none)))) else (if x5.length < 5864062014805 then (spec_l1Far.l0 k x0 x1 (x5 ++ [x7]) (wrap64 (x6 + 1))) else (none))
def spec_l1Far.j2 : Nat → ByteArray → ByteArray → List (List Int) → Int → List Int → Int → Int → Option (Int)
  | 0, _, _, _, _, _, _, _ => none
  | k + 1, x0, x1, x5, x6, x7, x8, x9 => if 0 ≤ (wrap64 (x6 - 1)) then (if (wrap64 (x6 - 1)) < (x5.length : Int) then (if 0 ≤ x8 then (if x8 < ((rd_L3 x5 (wrap64 (x6 - 1))).length : Int) then (if 0 ≤ (wrap64 (x8 - 1)) then (if (wrap64 (x8 - 1)) < (x7.length : Int) then ((spec_l1Least.f (wrap64 ((rd (rd_L3 x5 (wrap64 (x6 - 1))) x8) + 1)) (wrap64 ((rd x7 (wrap64 (x8 - 1))) + 1))).bind fun t282 => ((spec_l1Least.f x9 t282).bind fun t283 => (if x6 > 1 then (if x8 > 1 then (if (wrap64 (x6 - 1)) < (x0.size : Int) then (if 0 ≤ (wrap64 (x8 - 2)) then (if (wrap64 (x8 - 2)) < (x1.size : Int) then (if (bt x0 (wrap64 (x6 - 1))) = (bt x1 (wrap64 (x8 - 2))) then (if 0 ≤ (wrap64 (x6 - 2)) then (if (wrap64 (x6 - 2)) < (x0.size : Int) then (if (wrap64 (x8 - 1)) < (x1.size : Int) then (spec_l1Far.j3 k x0 x1 x5 x6 x7 x8 t283 ((bt x0 (wrap64 (x6 - 2))) == (bt x1 (wrap64 (x8 - 1))))) else (none)) else (none)) else (none)) else (spec_l1Far.j3 k x0 x1 x5 x6 x7 x8 t283 false)) else (none)) else (none)) else (none)) else (spec_l1Far.j3 k x0 x1 x5 x6 x7 x8 t283 false)) else (spec_l1Far.j3 k x0 x1 x5 x6 x7 x8 t283 false)))) else (none)) else (none)) else (none)) else (none)) else (none)) else (none)
def spec_l1Far.j3 : Nat → ByteArray → ByteArray → List (List Int) → Int → List Int → Int → Int → Bool → Option (Int)
  | 0, _, _, _, _, _, _, _, _ => none
  | k + 1, x0, x1, x5, x6, x7, x8, x9, x89 => if x89 = true then (if 0 ≤ (wrap64 (x6 - 2)) then (if (wrap64 (x6 - 2)) < (x5.length : Int) then (if 0 ≤ (wrap64 (x8 - 2)) then (if (wrap64 (x8 - 2)) < ((rd_L3 x5 (wrap64 (x6 - 2))).length : Int) then ((spec_l1Least.f x9 (wrap64 ((rd (rd_L3 x5 (wrap64 (x6 - 2))) (wrap64 (x8 - 2))) + 1))).bind fun t286 => (if x7.length < 17592186044416 then (spec_l1Far.l1 k x0 x1 x5 x6 (x7 ++ [t286]) (wrap64 (x8 + 1))) else (none))) else (none)) else (none)) else (none)) else (none)) else (if x7.length < 17592186044416 then (spec_l1Far.l1 k x0 x1 x5 x6 (x7 ++ [x9]) (wrap64 (x8 + 1))) else (none))
end
def spec_l1Far.f (k : Nat) (a0 : ByteArray) (a1 : ByteArray) : Option (Int) := spec_l1Far.l0 k a0 a1 (([] : List (List Int))) 0
theorem spec_l1Far.mono_l : ∀ k, (∀ y0 y1 y2 y3, LeO (spec_l1Far.l0 k y0 y1 y2 y3) (spec_l1Far.l0 (k + 1) y0 y1 y2 y3)) ∧ (∀ y0 y1 y2 y3 y4 y5, LeO (spec_l1Far.l1 k y0 y1 y2 y3 y4 y5) (spec_l1Far.l1 (k + 1) y0 y1 y2 y3 y4 y5)) ∧ (∀ y0 y1 y2 y3 y4 y5 y6, LeO (spec_l1Far.j2 k y0 y1 y2 y3 y4 y5 y6) (spec_l1Far.j2 (k + 1) y0 y1 y2 y3 y4 y5 y6)) ∧ (∀ y0 y1 y2 y3 y4 y5 y6 y7, LeO (spec_l1Far.j3 k y0 y1 y2 y3 y4 y5 y6 y7) (spec_l1Far.j3 (k + 1) y0 y1 y2 y3 y4 y5 y6 y7))
  | 0 => ⟨fun _ _ _ _ r h => by simp [spec_l1Far.l0] at h, fun _ _ _ _ _ _ r h => by simp [spec_l1Far.l1] at h, fun _ _ _ _ _ _ _ r h => by simp [spec_l1Far.j2] at h, fun _ _ _ _ _ _ _ _ r h => by simp [spec_l1Far.j3] at h⟩
  | k + 1 => by
    obtain ⟨ih0, ih1, ih2, ih3⟩ := spec_l1Far.mono_l k
    refine ⟨?_, ?_, ?_, ?_⟩
    · intro y0 y1 y2 y3
      unfold spec_l1Far.l0
      repeat' first
      | (with_reducible exact ih0 _ _ _ _)
      | (with_reducible exact ih1 _ _ _ _ _ _)
      | (with_reducible exact ih2 _ _ _ _ _ _ _)
      | (with_reducible exact ih3 _ _ _ _ _ _ _ _)
      | (with_reducible exact LeO.refl _)
      | (with_reducible exact LeO.none _)
      | (with_reducible refine LeO.ite ?_ ?_)
      | (with_reducible refine LeO.bind ?_ (fun _ => ?_))
      | exact ih0 _ _ _ _
      | exact ih1 _ _ _ _ _ _
      | exact ih2 _ _ _ _ _ _ _
      | exact ih3 _ _ _ _ _ _ _ _
      | exact LeO.none _
      | refine LeO.ite ?_ ?_
      | refine LeO.bind ?_ (fun _ => ?_)
    · intro y0 y1 y2 y3 y4 y5
      unfold spec_l1Far.l1
      repeat' first
      | (with_reducible exact ih0 _ _ _ _)
      | (with_reducible exact ih1 _ _ _ _ _ _)
      | (with_reducible exact ih2 _ _ _ _ _ _ _)
      | (with_reducible exact ih3 _ _ _ _ _ _ _ _)
      | (with_reducible exact LeO.refl _)
      | (with_reducible exact LeO.none _)
      | (with_reducible refine LeO.ite ?_ ?_)
      | (with_reducible refine LeO.bind ?_ (fun _ => ?_))
      | exact ih0 _ _ _ _
      | exact ih1 _ _ _ _ _ _
      | exact ih2 _ _ _ _ _ _ _
      | exact ih3 _ _ _ _ _ _ _ _
      | exact LeO.none _
      | refine LeO.ite ?_ ?_
      | refine LeO.bind ?_ (fun _ => ?_)
    · intro y0 y1 y2 y3 y4 y5 y6
      unfold spec_l1Far.j2
      repeat' first
      | (with_reducible exact ih0 _ _ _ _)
      | (with_reducible exact ih1 _ _ _ _ _ _)
      | (with_reducible exact ih2 _ _ _ _ _ _ _)
      | (with_reducible exact ih3 _ _ _ _ _ _ _ _)
      | (with_reducible exact LeO.refl _)
      | (with_reducible exact LeO.none _)
      | (with_reducible refine LeO.ite ?_ ?_)
      | (with_reducible refine LeO.bind ?_ (fun _ => ?_))
      | exact ih0 _ _ _ _
      | exact ih1 _ _ _ _ _ _
      | exact ih2 _ _ _ _ _ _ _
      | exact ih3 _ _ _ _ _ _ _ _
      | exact LeO.none _
      | refine LeO.ite ?_ ?_
      | refine LeO.bind ?_ (fun _ => ?_)
    · intro y0 y1 y2 y3 y4 y5 y6 y7
      unfold spec_l1Far.j3
      repeat' first
      | (with_reducible exact ih0 _ _ _ _)
      | (with_reducible exact ih1 _ _ _ _ _ _)
      | (with_reducible exact ih2 _ _ _ _ _ _ _)
      | (with_reducible exact ih3 _ _ _ _ _ _ _ _)
      | (with_reducible exact LeO.refl _)
      | (with_reducible exact LeO.none _)
      | (with_reducible refine LeO.ite ?_ ?_)
      | (with_reducible refine LeO.bind ?_ (fun _ => ?_))
      | exact ih0 _ _ _ _
      | exact ih1 _ _ _ _ _ _
      | exact ih2 _ _ _ _ _ _ _
      | exact ih3 _ _ _ _ _ _ _ _
      | exact LeO.none _
      | refine LeO.ite ?_ ?_
      | refine LeO.bind ?_ (fun _ => ?_)
theorem spec_l1Far.mono : ∀ a0 a1 k, LeO (spec_l1Far.f k a0 a1) (spec_l1Far.f (k + 1) a0 a1) := by
  intro a0 a1 k
  obtain ⟨ih0, ih1, ih2, ih3⟩ := spec_l1Far.mono_l k
  unfold spec_l1Far.f
  repeat' first
      | (with_reducible exact ih0 _ _ _ _)
      | (with_reducible exact ih1 _ _ _ _ _ _)
      | (with_reducible exact ih2 _ _ _ _ _ _ _)
      | (with_reducible exact ih3 _ _ _ _ _ _ _ _)
      | (with_reducible exact LeO.refl _)
      | (with_reducible exact LeO.none _)
      | (with_reducible refine LeO.ite ?_ ?_)
      | (with_reducible refine LeO.bind ?_ (fun _ => ?_))
      | exact ih0 _ _ _ _
      | exact ih1 _ _ _ _ _ _
      | exact ih2 _ _ _ _ _ _ _
      | exact ih3 _ _ _ _ _ _ _ _
      | exact LeO.none _
      | refine LeO.ite ?_ ?_
      | refine LeO.bind ?_ (fun _ => ?_)
set_option maxHeartbeats 8000000 in
set_option maxRecDepth 100000 in
theorem spec_l1Far.calls (k : Nat) (a0 : ByteArray) (a1 : ByteArray) (r : Int) (w : World) (h : spec_l1Far.f k a0 a1 = some r) :
    Calls Try.prog 88 #[.string a0, .string a1] w fun e w' => e = .returned (.int .i64 r) ∧ Below w.heap.size w w' := by
  have HB := Aside0.mk (Below.refl w.heap.size w)
  have H : (spec_l1Far.l0 k a0 a1 (([] : List (List Int))) 0) = some r := h
  clear h
  obtain ⟨y260, hy260⟩ : ∃ y_ : List (List Int), y_ = (([] : List (List Int))) := ⟨_, rfl⟩
  replace H : (spec_l1Far.l0 k a0 a1 y260 0) = some r := by first | (rw [hy260]; with_reducible exact H) | (have H2_ := (Option.bind_some _ _).symm.trans H; rw [hy260]; with_reducible exact H2_) | (have H2_ := (Option.bind_some _ _).symm.trans H; with_reducible exact H2_) | with_reducible exact H | (rw [hy260]; exact H) | exact H
  have Ny260 := Aside0.mk hy260
  clear hy260
  have H' := Aside0.mk H
  clear H
  go_enter Try.func88, Try.ntmps88
  go_wp2_with (first | ((with_reducible refine gate_dst (N := 10) rfl ?_); refine Kd.S_lit (Kd.slice 3 (Kd.int .i64)) _ 102 ?hg (N := 10) ?hd (xs := ([] : List (List Int))) (inner := []) (ok := fun _ => True) (okp := fun _ => True) ?hr ?hp (fun _ hk => hk) trivial (Below.refl _ _) (Nat.le_refl _) (by simp) ?_; (case hd => rfl); (case hg => rfl); (case hr => first | (go_simp; done) | (go_simp; rfl)); (case hp => exact (Reps.none _ _)); intro v261 w3 ho4 hb hg_ hnew_; clear hg_ hnew_; (first | rw [← Ny260.out] at ho4 | (simp only [Int.reduceToNat] at ho4; rw [← Ny260.out] at ho4) | (simp only [Int.toNat_natCast] at ho4; rw [← Ny260.out] at ho4)); have n0_ := Aside0.mk (Kd.S_lower ho4 (below_size (by repeat (first | (with_reducible first | exact HB.out | apply below_alloc | apply pw_below_drewN | apply below_drew1) | exact HB.out)))); have n1_ := Aside0.mk (below_step (by repeat (first | (with_reducible first | exact HB.out | apply below_alloc | apply pw_below_drewN | apply below_drew1) | exact HB.out)) hb); clear HB; have HO262 := n0_; have HB := n1_; clear n0_ n1_; clear hb ho4))
  repeat (go_quiet (first | ((with_reducible refine gate_dst (N := 10) rfl ?_); refine Kd.S_lit (Kd.slice 3 (Kd.int .i64)) _ 102 ?hg (N := 10) ?hd (xs := ([] : List (List Int))) (inner := []) (ok := fun _ => True) (okp := fun _ => True) ?hr ?hp (fun _ hk => hk) trivial (Below.refl _ _) (Nat.le_refl _) (by simp) ?_; (case hd => rfl); (case hg => rfl); (case hr => first | (go_simp; done) | (go_simp; rfl)); (case hp => exact (Reps.none _ _)); intro v261 w3 ho4 hb hg_ hnew_; clear hg_ hnew_; (first | rw [← Ny260.out] at ho4 | (simp only [Int.reduceToNat] at ho4; rw [← Ny260.out] at ho4) | (simp only [Int.toNat_natCast] at ho4; rw [← Ny260.out] at ho4)); have n0_ := Aside0.mk (Kd.S_lower ho4 (below_size (by repeat (first | (with_reducible first | exact HB.out | apply below_alloc | apply pw_below_drewN | apply below_drew1) | exact HB.out)))); have n1_ := Aside0.mk (below_step (by repeat (first | (with_reducible first | exact HB.out | apply below_alloc | apply pw_below_drewN | apply below_drew1) | exact HB.out)) hb); clear HB; have HO262 := n0_; have HB := n1_; clear n0_ n1_; clear hb ho4)); try go_wp2_with (first | ((with_reducible refine gate_dst (N := 10) rfl ?_); refine Kd.S_lit (Kd.slice 3 (Kd.int .i64)) _ 102 ?hg (N := 10) ?hd (xs := ([] : List (List Int))) (inner := []) (ok := fun _ => True) (okp := fun _ => True) ?hr ?hp (fun _ hk => hk) trivial (Below.refl _ _) (Nat.le_refl _) (by simp) ?_; (case hd => rfl); (case hg => rfl); (case hr => first | (go_simp; done) | (go_simp; rfl)); (case hp => exact (Reps.none _ _)); intro v261 w3 ho4 hb hg_ hnew_; clear hg_ hnew_; (first | rw [← Ny260.out] at ho4 | (simp only [Int.reduceToNat] at ho4; rw [← Ny260.out] at ho4) | (simp only [Int.toNat_natCast] at ho4; rw [← Ny260.out] at ho4)); have n0_ := Aside0.mk (Kd.S_lower ho4 (below_size (by repeat (first | (with_reducible first | exact HB.out | apply below_alloc | apply pw_below_drewN | apply below_drew1) | exact HB.out)))); have n1_ := Aside0.mk (below_step (by repeat (first | (with_reducible first | exact HB.out | apply below_alloc | apply pw_below_drewN | apply below_drew1) | exact HB.out)) hb); clear HB; have HO262 := n0_; have HB := n1_; clear n0_ n1_; clear hb ho4)))
  go_loopg [5, 6] k (fun kq v5 v6 w' => ∃ (x5_1 : List (List Int)) (x6_1 : Int), v6 = .int .i64 x6_1 ∧ Aside0 (spec_l1Far.l0 kq a0 a1 x5_1 x6_1 = some r) ∧ Aside0 (kq ≤ k) ∧ Aside0 (Kd.S (Kd.slice 3 (Kd.int .i64)) 102 w' w.heap.size (fun _ => True) v5 x5_1) ∧ Aside0 (Below w.heap.size w w'))
  case atStart => exact ⟨(y260), (0), (by first | rfl | (simp; done) | (simp [*]; done)), H', ⟨Nat.le_refl _⟩, ⟨by (with_reducible repeat (first | apply Kd.S_alloc | apply Kd.S_drewN | apply Kd.S_drew)); exact HO262.out⟩, ⟨by repeat (first | (with_reducible first | exact HB.out | apply below_alloc | apply pw_below_drewN | apply below_drew1) | exact HB.out)⟩⟩
  case round =>
    clear H'
    try clear p2
    obtain ⟨x5_1, x6_1, rfl, HA, HK1, HO_5, HB⟩ := hrel
    cases gk with
    | zero => exact absurd HA.out (by simp [spec_l1Far.l0])
    | succ k1 =>
      have H := HA.out
      clear HA
      simp only [spec_l1Far.l0] at H
      by_cases c5 : x6_1 ≤ (a0.size : Int)
      · rw [if_pos c5] at H
        have c5b0 : decide (x6_1 ≤ (a0.size : Int)) = true := decide_eq_true c5
        clear c5
        obtain ⟨y265, hy265⟩ : ∃ y_ : List Int, y_ = (([] : List Int)) := ⟨_, rfl⟩
        replace H : (spec_l1Far.l1 k1 a0 a1 x5_1 x6_1 y265 0) = some r := by first | (rw [hy265]; with_reducible exact H) | (have H2_ := (Option.bind_some _ _).symm.trans H; rw [hy265]; with_reducible exact H2_) | (have H2_ := (Option.bind_some _ _).symm.trans H; with_reducible exact H2_) | with_reducible exact H | (rw [hy265]; exact H) | exact H
        have Ny265 := Aside0.mk hy265
        clear hy265
        have H' := Aside0.mk H
        clear H
        go_wp2_with (first | ((with_reducible refine gate_dst (N := 17) rfl ?_); refine Kd.R_lit (Kd.int .i64) _ 3 ?hg (N := 17) ?hd (xs := ([] : List Int)) (inner := []) (ok := fun _ => True) (okp := fun _ => True) ?hr ?hp (fun _ hk => hk) trivial (Below.refl _ _) (Nat.le_refl _) (by simp) ?_; (case hd => rfl); (case hg => rfl); (case hr => first | (go_simp; done) | (go_simp; rfl)); (case hp => exact (Reps.none _ _)); intro v266 w6 ho7 hb hg_ hnew_; clear hg_ hnew_; (first | rw [← Ny265.out] at ho7 | (simp only [Int.reduceToNat] at ho7; rw [← Ny265.out] at ho7) | (simp only [Int.toNat_natCast] at ho7; rw [← Ny265.out] at ho7)); have n0_ := Aside0.mk (Kd.S_elder' (by (with_reducible repeat (first | apply Kd.S_alloc | apply Kd.S_drewN | apply Kd.S_drew)); exact HO_5.out) (Kd.R_base ho7) hb); have n1_ := Aside0.mk (Kd.R_lower ho7 (below_size (by repeat (first | (with_reducible first | exact HB.out | apply below_alloc | apply pw_below_drewN | apply below_drew1) | exact HB.out)))); have n2_ := Aside0.mk (below_step (by repeat (first | (with_reducible first | exact HB.out | apply below_alloc | apply pw_below_drewN | apply below_drew1) | exact HB.out)) hb); clear HO_5; clear HB; have HO_5 := n0_; have HO267 := n1_; have HB := n2_; clear n0_ n1_ n2_; clear hb ho7))
        repeat (go_quiet (first | ((with_reducible refine gate_dst (N := 17) rfl ?_); refine Kd.R_lit (Kd.int .i64) _ 3 ?hg (N := 17) ?hd (xs := ([] : List Int)) (inner := []) (ok := fun _ => True) (okp := fun _ => True) ?hr ?hp (fun _ hk => hk) trivial (Below.refl _ _) (Nat.le_refl _) (by simp) ?_; (case hd => rfl); (case hg => rfl); (case hr => first | (go_simp; done) | (go_simp; rfl)); (case hp => exact (Reps.none _ _)); intro v266 w6 ho7 hb hg_ hnew_; clear hg_ hnew_; (first | rw [← Ny265.out] at ho7 | (simp only [Int.reduceToNat] at ho7; rw [← Ny265.out] at ho7) | (simp only [Int.toNat_natCast] at ho7; rw [← Ny265.out] at ho7)); have n0_ := Aside0.mk (Kd.S_elder' (by (with_reducible repeat (first | apply Kd.S_alloc | apply Kd.S_drewN | apply Kd.S_drew)); exact HO_5.out) (Kd.R_base ho7) hb); have n1_ := Aside0.mk (Kd.R_lower ho7 (below_size (by repeat (first | (with_reducible first | exact HB.out | apply below_alloc | apply pw_below_drewN | apply below_drew1) | exact HB.out)))); have n2_ := Aside0.mk (below_step (by repeat (first | (with_reducible first | exact HB.out | apply below_alloc | apply pw_below_drewN | apply below_drew1) | exact HB.out)) hb); clear HO_5; clear HB; have HO_5 := n0_; have HO267 := n1_; have HB := n2_; clear n0_ n1_ n2_; clear hb ho7)); try go_wp2_with (first | ((with_reducible refine gate_dst (N := 17) rfl ?_); refine Kd.R_lit (Kd.int .i64) _ 3 ?hg (N := 17) ?hd (xs := ([] : List Int)) (inner := []) (ok := fun _ => True) (okp := fun _ => True) ?hr ?hp (fun _ hk => hk) trivial (Below.refl _ _) (Nat.le_refl _) (by simp) ?_; (case hd => rfl); (case hg => rfl); (case hr => first | (go_simp; done) | (go_simp; rfl)); (case hp => exact (Reps.none _ _)); intro v266 w6 ho7 hb hg_ hnew_; clear hg_ hnew_; (first | rw [← Ny265.out] at ho7 | (simp only [Int.reduceToNat] at ho7; rw [← Ny265.out] at ho7) | (simp only [Int.toNat_natCast] at ho7; rw [← Ny265.out] at ho7)); have n0_ := Aside0.mk (Kd.S_elder' (by (with_reducible repeat (first | apply Kd.S_alloc | apply Kd.S_drewN | apply Kd.S_drew)); exact HO_5.out) (Kd.R_base ho7) hb); have n1_ := Aside0.mk (Kd.R_lower ho7 (below_size (by repeat (first | (with_reducible first | exact HB.out | apply below_alloc | apply pw_below_drewN | apply below_drew1) | exact HB.out)))); have n2_ := Aside0.mk (below_step (by repeat (first | (with_reducible first | exact HB.out | apply below_alloc | apply pw_below_drewN | apply below_drew1) | exact HB.out)) hb); clear HO_5; clear HB; have HO_5 := n0_; have HO267 := n1_; have HB := n2_; clear n0_ n1_ n2_; clear hb ho7)))
        go_loopg [7, 8] k1 (fun kq v7 v8 w' => ∃ (x7_2 : List Int) (x8_2 : Int), v8 = .int .i64 x8_2 ∧ Aside0 (spec_l1Far.l1 kq a0 a1 x5_1 x6_1 x7_2 x8_2 = some r) ∧ Aside0 (kq ≤ k1) ∧ Aside0 (Kd.S (Kd.slice 3 (Kd.int .i64)) 102 w' w.heap.size (fun k_ => some k_ ≠ (v7 : Value).ownBlock) u5 x5_1) ∧ Aside0 (Kd.R (Kd.int .i64) 3 w' w.heap.size (fun _ => True) v7 x7_2) ∧ Aside0 (Below w.heap.size w w'))
        case atStart => exact ⟨(y265), (0), (by first | rfl | (simp; done) | (simp [*]; done)), H', ⟨Nat.le_refl _⟩, ⟨by (with_reducible repeat (first | apply Kd.S_alloc | apply Kd.S_drewN | apply Kd.S_drew)); exact Kd.S_mono HO_5.out (fun _ hk => hk.2)⟩, ⟨by (with_reducible repeat (first | apply Kd.R_alloc | apply Kd.R_drewN | apply Kd.R_drew)); exact HO267.out⟩, ⟨by repeat (first | (with_reducible first | exact HB.out | apply below_alloc | apply pw_below_drewN | apply below_drew1) | exact HB.out)⟩⟩
        case round =>
          clear H'
          try clear p2
          try clear c5
          try clear c5b0
          try clear p2
          obtain ⟨x7_2, x8_2, rfl, HA, HK2, HO_5, HO_7, HB⟩ := hrel
          cases gk with
          | zero => exact absurd HA.out (by simp [spec_l1Far.l1])
          | succ k2 =>
            have H := HA.out
            clear HA
            simp only [spec_l1Far.l1] at H
            by_cases c8 : x8_2 ≤ (a1.size : Int)
            · rw [if_pos c8] at H
              have c8b0 : decide (x8_2 ≤ (a1.size : Int)) = true := decide_eq_true c8
              clear c8
              by_cases c9 : x6_1 = 0
              · rw [if_pos c9] at H
                have c9b0 : (x6_1 == 0) = true := beq_iff_eq.mpr c9
                have c9b1 : (x6_1 != 0) = false := bne_eq_false_iff_eq.mpr c9
                clear c9
                by_cases c10 : x7_2.length < 17592186044416
                · rw [if_pos c10] at H
                  have LMc10 := Aside0.mk c10
                  clear c10
                  obtain ⟨y271, hy271⟩ : ∃ y_ : List Int, y_ = (x7_2 ++ [x8_2]) := ⟨_, rfl⟩
                  replace H : (spec_l1Far.l1 k2 a0 a1 x5_1 x6_1 y271 (wrap64 (x8_2 + 1))) = some r := by first | (rw [hy271]; with_reducible exact H) | (have H2_ := (Option.bind_some _ _).symm.trans H; rw [hy271]; with_reducible exact H2_) | (have H2_ := (Option.bind_some _ _).symm.trans H; with_reducible exact H2_) | with_reducible exact H | (rw [hy271]; exact H) | exact H
                  have Ny271 := Aside0.mk hy271
                  clear hy271
                  have H' := Aside0.mk H
                  clear H
                  go_wp2_with (first | ((with_reducible refine gate_builtin (b := .append) (xs := #[.tmp 109, .tmp 111]) rfl ?_); at_builtin; refine Kd.R_append (Kd.int .i64) (w0 := w) w.heap.size rfl (.tmp 109) (.tmp 111) 102 3 (.int .i64 0) 8 rfl Try.underlying102 info3 rfl (by decide) (by omega) u7 x7_2 x8_2 [.int .i64 x8_2] (fun _ => True) (fun _ => False) rfl rfl ?aP (fun _ hk => hk.elim) ?aF ?aO ?aB ?aS ?aL ?_; (case aP => exact rfl); (case aB => exact (by repeat (first | (with_reducible first | exact HB.out | apply below_alloc | apply pw_below_drewN | apply below_drew1) | exact HB.out))); (case aF => exact (fun _ _ => trivial)); (case aO => exact (by (with_reducible repeat (first | apply Kd.R_alloc | apply Kd.R_drewN | apply Kd.R_drew)); exact HO_7.out)); (case aS => exact (below_size (by repeat (first | (with_reducible first | exact HB.out | apply below_alloc | apply pw_below_drewN | apply below_drew1) | exact HB.out)))); (case aL => have := LMc10.out; omega); intro v272 w11 ho hb hg hat; rw [← Ny271.out] at ho; have n0_ := Aside0.mk (Kd.S_after (ok := (fun _ => True)) (by (with_reducible repeat (first | apply Kd.S_alloc | apply Kd.S_drewN | apply Kd.S_drew)); exact Kd.S_mono HO_5.out (fun _ hk => ⟨trivial, hk⟩)) hg hat); have n1_ := Aside0.mk (hb); have n2_ := Aside0.mk (ho); clear HO_5; clear HB; clear HO_7; have HO_5 := n0_; have HB := n1_; have HO273 := n2_; clear n0_ n1_ n2_; clear ho hb hg hat))
                  repeat (go_quiet (first | ((with_reducible refine gate_builtin (b := .append) (xs := #[.tmp 109, .tmp 111]) rfl ?_); at_builtin; refine Kd.R_append (Kd.int .i64) (w0 := w) w.heap.size rfl (.tmp 109) (.tmp 111) 102 3 (.int .i64 0) 8 rfl Try.underlying102 info3 rfl (by decide) (by omega) u7 x7_2 x8_2 [.int .i64 x8_2] (fun _ => True) (fun _ => False) rfl rfl ?aP (fun _ hk => hk.elim) ?aF ?aO ?aB ?aS ?aL ?_; (case aP => exact rfl); (case aB => exact (by repeat (first | (with_reducible first | exact HB.out | apply below_alloc | apply pw_below_drewN | apply below_drew1) | exact HB.out))); (case aF => exact (fun _ _ => trivial)); (case aO => exact (by (with_reducible repeat (first | apply Kd.R_alloc | apply Kd.R_drewN | apply Kd.R_drew)); exact HO_7.out)); (case aS => exact (below_size (by repeat (first | (with_reducible first | exact HB.out | apply below_alloc | apply pw_below_drewN | apply below_drew1) | exact HB.out)))); (case aL => have := LMc10.out; omega); intro v272 w11 ho hb hg hat; rw [← Ny271.out] at ho; have n0_ := Aside0.mk (Kd.S_after (ok := (fun _ => True)) (by (with_reducible repeat (first | apply Kd.S_alloc | apply Kd.S_drewN | apply Kd.S_drew)); exact Kd.S_mono HO_5.out (fun _ hk => ⟨trivial, hk⟩)) hg hat); have n1_ := Aside0.mk (hb); have n2_ := Aside0.mk (ho); clear HO_5; clear HB; clear HO_7; have HO_5 := n0_; have HB := n1_; have HO273 := n2_; clear n0_ n1_ n2_; clear ho hb hg hat)); try go_wp2_with (first | ((with_reducible refine gate_builtin (b := .append) (xs := #[.tmp 109, .tmp 111]) rfl ?_); at_builtin; refine Kd.R_append (Kd.int .i64) (w0 := w) w.heap.size rfl (.tmp 109) (.tmp 111) 102 3 (.int .i64 0) 8 rfl Try.underlying102 info3 rfl (by decide) (by omega) u7 x7_2 x8_2 [.int .i64 x8_2] (fun _ => True) (fun _ => False) rfl rfl ?aP (fun _ hk => hk.elim) ?aF ?aO ?aB ?aS ?aL ?_; (case aP => exact rfl); (case aB => exact (by repeat (first | (with_reducible first | exact HB.out | apply below_alloc | apply pw_below_drewN | apply below_drew1) | exact HB.out))); (case aF => exact (fun _ _ => trivial)); (case aO => exact (by (with_reducible repeat (first | apply Kd.R_alloc | apply Kd.R_drewN | apply Kd.R_drew)); exact HO_7.out)); (case aS => exact (below_size (by repeat (first | (with_reducible first | exact HB.out | apply below_alloc | apply pw_below_drewN | apply below_drew1) | exact HB.out)))); (case aL => have := LMc10.out; omega); intro v272 w11 ho hb hg hat; rw [← Ny271.out] at ho; have n0_ := Aside0.mk (Kd.S_after (ok := (fun _ => True)) (by (with_reducible repeat (first | apply Kd.S_alloc | apply Kd.S_drewN | apply Kd.S_drew)); exact Kd.S_mono HO_5.out (fun _ hk => ⟨trivial, hk⟩)) hg hat); have n1_ := Aside0.mk (hb); have n2_ := Aside0.mk (ho); clear HO_5; clear HB; clear HO_7; have HO_5 := n0_; have HB := n1_; have HO273 := n2_; clear n0_ n1_ n2_; clear ho hb hg hat)))
                  go_roundg k2
                  case measure => have := HK1.out; have := HK2.out; omega
                  case rel => exact ⟨(y271), (wrap64 (x8_2 + 1)), (by first | rfl | (simp; done) | (simp [*]; done)), H', ⟨by have := HK1.out; have := HK2.out; omega⟩, ⟨by (with_reducible repeat (first | apply Kd.S_alloc | apply Kd.S_drewN | apply Kd.S_drew)); exact Kd.S_mono HO_5.out (fun _ hk => hk.2)⟩, ⟨by (with_reducible repeat (first | apply Kd.R_alloc | apply Kd.R_drewN | apply Kd.R_drew)); exact HO273.out⟩, ⟨by repeat (first | (with_reducible first | exact HB.out | apply below_alloc | apply pw_below_drewN | apply below_drew1) | exact HB.out)⟩⟩
                · rw [if_neg c10] at H
                  exact absurd H (by simp)
              · rw [if_neg c9] at H
                have c9b0 : (x6_1 == 0) = false := beq_eq_false_iff_ne.mpr c9
                have c9b1 : (x6_1 != 0) = true := bne_iff_ne.mpr c9
                by_cases c12 : x8_2 = 0
                · rw [if_pos c12] at H
                  have c12b0 : (x8_2 == 0) = true := beq_iff_eq.mpr c12
                  have c12b1 : (x8_2 != 0) = false := bne_eq_false_iff_eq.mpr c12
                  clear c12
                  by_cases c13 : x7_2.length < 17592186044416
                  · rw [if_pos c13] at H
                    have LMc13 := Aside0.mk c13
                    clear c13
                    obtain ⟨y274, hy274⟩ : ∃ y_ : List Int, y_ = (x7_2 ++ [x6_1]) := ⟨_, rfl⟩
                    replace H : (spec_l1Far.l1 k2 a0 a1 x5_1 x6_1 y274 (wrap64 (x8_2 + 1))) = some r := by first | (rw [hy274]; with_reducible exact H) | (have H2_ := (Option.bind_some _ _).symm.trans H; rw [hy274]; with_reducible exact H2_) | (have H2_ := (Option.bind_some _ _).symm.trans H; with_reducible exact H2_) | with_reducible exact H | (rw [hy274]; exact H) | exact H
                    have Ny274 := Aside0.mk hy274
                    clear hy274
                    have H' := Aside0.mk H
                    clear H
                    go_wp2_with (first | ((with_reducible refine gate_builtin (b := .append) (xs := #[.tmp 116, .tmp 118]) rfl ?_); at_builtin; refine Kd.R_append (Kd.int .i64) (w0 := w) w.heap.size rfl (.tmp 116) (.tmp 118) 102 3 (.int .i64 0) 8 rfl Try.underlying102 info3 rfl (by decide) (by omega) u7 x7_2 x6_1 [.int .i64 x6_1] (fun _ => True) (fun _ => False) rfl rfl ?aP (fun _ hk => hk.elim) ?aF ?aO ?aB ?aS ?aL ?_; (case aP => exact rfl); (case aB => exact (by repeat (first | (with_reducible first | exact HB.out | apply below_alloc | apply pw_below_drewN | apply below_drew1) | exact HB.out))); (case aF => exact (fun _ _ => trivial)); (case aO => exact (by (with_reducible repeat (first | apply Kd.R_alloc | apply Kd.R_drewN | apply Kd.R_drew)); exact HO_7.out)); (case aS => exact (below_size (by repeat (first | (with_reducible first | exact HB.out | apply below_alloc | apply pw_below_drewN | apply below_drew1) | exact HB.out)))); (case aL => have := LMc13.out; omega); intro v275 w14 ho hb hg hat; rw [← Ny274.out] at ho; have n0_ := Aside0.mk (Kd.S_after (ok := (fun _ => True)) (by (with_reducible repeat (first | apply Kd.S_alloc | apply Kd.S_drewN | apply Kd.S_drew)); exact Kd.S_mono HO_5.out (fun _ hk => ⟨trivial, hk⟩)) hg hat); have n1_ := Aside0.mk (hb); have n2_ := Aside0.mk (ho); clear HO_5; clear HB; clear HO_7; have HO_5 := n0_; have HB := n1_; have HO276 := n2_; clear n0_ n1_ n2_; clear ho hb hg hat))
                    repeat (go_quiet (first | ((with_reducible refine gate_builtin (b := .append) (xs := #[.tmp 116, .tmp 118]) rfl ?_); at_builtin; refine Kd.R_append (Kd.int .i64) (w0 := w) w.heap.size rfl (.tmp 116) (.tmp 118) 102 3 (.int .i64 0) 8 rfl Try.underlying102 info3 rfl (by decide) (by omega) u7 x7_2 x6_1 [.int .i64 x6_1] (fun _ => True) (fun _ => False) rfl rfl ?aP (fun _ hk => hk.elim) ?aF ?aO ?aB ?aS ?aL ?_; (case aP => exact rfl); (case aB => exact (by repeat (first | (with_reducible first | exact HB.out | apply below_alloc | apply pw_below_drewN | apply below_drew1) | exact HB.out))); (case aF => exact (fun _ _ => trivial)); (case aO => exact (by (with_reducible repeat (first | apply Kd.R_alloc | apply Kd.R_drewN | apply Kd.R_drew)); exact HO_7.out)); (case aS => exact (below_size (by repeat (first | (with_reducible first | exact HB.out | apply below_alloc | apply pw_below_drewN | apply below_drew1) | exact HB.out)))); (case aL => have := LMc13.out; omega); intro v275 w14 ho hb hg hat; rw [← Ny274.out] at ho; have n0_ := Aside0.mk (Kd.S_after (ok := (fun _ => True)) (by (with_reducible repeat (first | apply Kd.S_alloc | apply Kd.S_drewN | apply Kd.S_drew)); exact Kd.S_mono HO_5.out (fun _ hk => ⟨trivial, hk⟩)) hg hat); have n1_ := Aside0.mk (hb); have n2_ := Aside0.mk (ho); clear HO_5; clear HB; clear HO_7; have HO_5 := n0_; have HB := n1_; have HO276 := n2_; clear n0_ n1_ n2_; clear ho hb hg hat)); try go_wp2_with (first | ((with_reducible refine gate_builtin (b := .append) (xs := #[.tmp 116, .tmp 118]) rfl ?_); at_builtin; refine Kd.R_append (Kd.int .i64) (w0 := w) w.heap.size rfl (.tmp 116) (.tmp 118) 102 3 (.int .i64 0) 8 rfl Try.underlying102 info3 rfl (by decide) (by omega) u7 x7_2 x6_1 [.int .i64 x6_1] (fun _ => True) (fun _ => False) rfl rfl ?aP (fun _ hk => hk.elim) ?aF ?aO ?aB ?aS ?aL ?_; (case aP => exact rfl); (case aB => exact (by repeat (first | (with_reducible first | exact HB.out | apply below_alloc | apply pw_below_drewN | apply below_drew1) | exact HB.out))); (case aF => exact (fun _ _ => trivial)); (case aO => exact (by (with_reducible repeat (first | apply Kd.R_alloc | apply Kd.R_drewN | apply Kd.R_drew)); exact HO_7.out)); (case aS => exact (below_size (by repeat (first | (with_reducible first | exact HB.out | apply below_alloc | apply pw_below_drewN | apply below_drew1) | exact HB.out)))); (case aL => have := LMc13.out; omega); intro v275 w14 ho hb hg hat; rw [← Ny274.out] at ho; have n0_ := Aside0.mk (Kd.S_after (ok := (fun _ => True)) (by (with_reducible repeat (first | apply Kd.S_alloc | apply Kd.S_drewN | apply Kd.S_drew)); exact Kd.S_mono HO_5.out (fun _ hk => ⟨trivial, hk⟩)) hg hat); have n1_ := Aside0.mk (hb); have n2_ := Aside0.mk (ho); clear HO_5; clear HB; clear HO_7; have HO_5 := n0_; have HB := n1_; have HO276 := n2_; clear n0_ n1_ n2_; clear ho hb hg hat)))
                    go_roundg k2
                    case measure => have := HK1.out; have := HK2.out; omega
                    case rel => exact ⟨(y274), (wrap64 (x8_2 + 1)), (by first | rfl | (simp; done) | (simp [*]; done)), H', ⟨by have := HK1.out; have := HK2.out; omega⟩, ⟨by (with_reducible repeat (first | apply Kd.S_alloc | apply Kd.S_drewN | apply Kd.S_drew)); exact Kd.S_mono HO_5.out (fun _ hk => hk.2)⟩, ⟨by (with_reducible repeat (first | apply Kd.R_alloc | apply Kd.R_drewN | apply Kd.R_drew)); exact HO276.out⟩, ⟨by repeat (first | (with_reducible first | exact HB.out | apply below_alloc | apply pw_below_drewN | apply below_drew1) | exact HB.out)⟩⟩
                  · rw [if_neg c13] at H
                    exact absurd H (by simp)
                · rw [if_neg c12] at H
                  have c12b0 : (x8_2 == 0) = false := beq_eq_false_iff_ne.mpr c12
                  have c12b1 : (x8_2 != 0) = true := bne_iff_ne.mpr c12
                  obtain ⟨ji15, hji15⟩ : ∃ j_ : Int, (wrap64 (x6_1 - 1)) = j_ := ⟨_, rfl⟩
                  replace H : (if 0 ≤ (ji15) then (if (ji15) < (x5_1.length : Int) then (if 0 ≤ (wrap64 (x8_2 - 1)) then (if (wrap64 (x8_2 - 1)) < ((rd_L3 x5_1 (ji15)).length : Int) then (if (ji15) < (a0.size : Int) then (if (wrap64 (x8_2 - 1)) < (a1.size : Int) then (if (bt a0 (ji15)) = (bt a1 (wrap64 (x8_2 - 1))) then (spec_l1Far.j2 k2 a0 a1 x5_1 x6_1 x7_2 x8_2 (rd (rd_L3 x5_1 (ji15)) (wrap64 (x8_2 - 1)))) else (spec_l1Far.j2 k2 a0 a1 x5_1 x6_1 x7_2 x8_2 (wrap64 ((rd (rd_L3 x5_1 (ji15)) (wrap64 (x8_2 - 1))) + 1)))) else (none)) else (none)) else (none)) else (none)) else (none)) else (none)) = some r := by first | (rw [hji15] at H; exact H) | (simp only [hji15] at H ⊢; exact H)
                  have hji15w : (IntKind.i64.wrap (x6_1 - 1)) = ji15 := (i64_w _).trans hji15
                  by_cases c16 : 0 ≤ (ji15)
                  · rw [if_pos c16] at H
                    have c16b0 : decide (0 ≤ (ji15)) = true := decide_eq_true c16
                    clear c16
                    by_cases c17 : (ji15) < (x5_1.length : Int)
                    · rw [if_pos c17] at H
                      have c17b0 : decide ((ji15) < (x5_1.length : Int)) = true := decide_eq_true c17
                      clear c17
                      obtain ⟨ji18, hji18⟩ : ∃ j_ : Int, (wrap64 (x8_2 - 1)) = j_ := ⟨_, rfl⟩
                      replace H : (if 0 ≤ (ji18) then (if (ji18) < ((rd_L3 x5_1 (ji15)).length : Int) then (if (ji15) < (a0.size : Int) then (if (ji18) < (a1.size : Int) then (if (bt a0 (ji15)) = (bt a1 (ji18)) then (spec_l1Far.j2 k2 a0 a1 x5_1 x6_1 x7_2 x8_2 (rd (rd_L3 x5_1 (ji15)) (ji18))) else (spec_l1Far.j2 k2 a0 a1 x5_1 x6_1 x7_2 x8_2 (wrap64 ((rd (rd_L3 x5_1 (ji15)) (ji18)) + 1)))) else (none)) else (none)) else (none)) else (none)) = some r := by first | (rw [hji18] at H; exact H) | (simp only [hji18] at H ⊢; exact H)
                      have hji18w : (IntKind.i64.wrap (x8_2 - 1)) = ji18 := (i64_w _).trans hji18
                      by_cases c19 : 0 ≤ (ji18)
                      · rw [if_pos c19] at H
                        have c19b0 : decide (0 ≤ (ji18)) = true := decide_eq_true c19
                        clear c19
                        by_cases c20 : (ji18) < ((rd_L3 x5_1 (ji15)).length : Int)
                        · rw [if_pos c20] at H
                          have c20b0 : decide ((ji18) < ((rd_L3 x5_1 (ji15)).length : Int)) = true := decide_eq_true c20
                          clear c20
                          by_cases c21 : (ji15) < (a0.size : Int)
                          · rw [if_pos c21] at H
                            have c21b0 : decide ((ji15) < (a0.size : Int)) = true := decide_eq_true c21
                            clear c21
                            by_cases c23 : (ji18) < (a1.size : Int)
                            · rw [if_pos c23] at H
                              have c23b0 : decide ((ji18) < (a1.size : Int)) = true := decide_eq_true c23
                              clear c23
                              have HC25 := Aside0.mk H
                              clear H
                              obtain ⟨Ao26, co26, eo26⟩ := Kd.S_slice HO_5.out
                              subst eo26
                              have p277 : 0 ≤ ((ji15) : Int) := of_decide_eq_true (by first | (with_reducible assumption) | assumption)
                              have q277 : (ji15) < (x5_1.length : Int) := of_decide_eq_true (by first | (with_reducible assumption) | assumption)
                              obtain ⟨ad277, A277_0, c277_0, e277, hx277_0, hl277_0, hi277_0⟩ := at_L3 (Kd.S_reads' HO_5.out).2.2 (ji15) p277 q277
                              cases e277
                              obtain ⟨ce277, hce277, hMe277, hcc277⟩ := Kd.S_get HO_5.out [] (ji15) p277 (by first | exact q277 | exact of_decide_eq_true (by first | (with_reducible assumption) | assumption) | (have e_ := (Kd.S_reads' HO_5.out).1; omega))
                              obtain ⟨ve277_0, rfl, ge277_0⟩ := hMe277
                              have hv277_0 := hcc277 0 _ rfl
                              rw [Nat.add_zero, show ((Kd.slice 3 (Kd.int .i64))).sz = 1 from rfl, Nat.mul_one] at hv277_0
                              replace hv277_0 := Option.some.inj (hv277_0.symm.trans hx277_0)
                              rw [hv277_0] at ge277_0
                              have HL277_0 := Aside0.mk (show Kd.R (Kd.int .i64) 3 _ _ _ _ (rd_L3 x5_1 (ji15)) from ge277_0)
                              clear hv277_0 ge277_0
                              clear hcc277 hce277
                              have HR277_0 := Aside0.mk hi277_0
                              have HC277_0 := Aside0.mk hl277_0
                              clear hi277_0 hl277_0
                              replace p277 := eq_true p277
                              replace q277 := eq_true q277
                              have p278 : 0 ≤ ((ji18) : Int) := of_decide_eq_true (by first | (with_reducible assumption) | assumption)
                              have q278 : (ji18) < ((rd_L3 x5_1 (ji15)).length : Int) := of_decide_eq_true (by first | (with_reducible assumption) | assumption)
                              obtain ⟨ad278, e278, hx278_0⟩ := Kd.at_int (by repeat (first | (with_reducible exact HR277_0.out) | (with_reducible refine Kd.C_alloc ?_ _) | (with_reducible refine Kd.C_drewN ?_ _) | (with_reducible refine Kd.C_drew ?_) | exact HR277_0.out)) (ji18) p278 q278
                              cases e278
                              replace p278 := eq_true p278
                              replace q278 := eq_true q278
                              have p22 : 0 ≤ ((ji15) : Int) := of_decide_eq_true (by first | (with_reducible assumption) | assumption)
                              have q22 : (ji15) < (a0.size : Int) := of_decide_eq_true (by first | (with_reducible assumption) | assumption)
                              have hx22 := bt_at a0 (ji15)
                              replace p22 := eq_true p22
                              replace q22 := eq_true q22
                              have p24 : 0 ≤ ((ji18) : Int) := of_decide_eq_true (by first | (with_reducible assumption) | assumption)
                              have q24 : (ji18) < (a1.size : Int) := of_decide_eq_true (by first | (with_reducible assumption) | assumption)
                              have hx24 := bt_at a1 (ji18)
                              replace p24 := eq_true p24
                              replace q24 := eq_true q24
                              go_upto_if 41 with (fail)
                              repeat (go_quiet (fail); go_upto_if 41 with (fail))
                              go_cut [9] (fun v9 wc => ∃ (kq : Nat) (x9_24 : Int), v9 = .int .i64 x9_24 ∧ Aside0 (spec_l1Far.j2 kq a0 a1 x5_1 x6_1 x7_2 x8_2 x9_24 = some r) ∧ Aside0 (kq ≤ k2) ∧ Aside0 (Kd.S (Kd.slice 3 (Kd.int .i64)) 102 wc w.heap.size (fun k_ => some k_ ≠ (u7 : Value).ownBlock) (.slice (some ad277) x5_1.length co26) x5_1) ∧ Aside0 (Kd.R (Kd.int .i64) 3 wc w.heap.size (fun _ => True) u7 x7_2) ∧ Aside0 (Kd.C (Kd.int .i64) wc (some ad278) (rd_L3 x5_1 (ji15)).length (rd_L3 x5_1 (ji15))) ∧ Aside0 (Below w.heap.size w wc))
                              case first =>
                                have H := HC25.out
                                clear HC25
                                by_cases c27 : (bt a0 (ji15)) = (bt a1 (ji18))
                                · rw [if_pos c27] at H
                                  have c27b0 : ((bt a0 (ji15)) == (bt a1 (ji18))) = true := beq_iff_eq.mpr c27
                                  have c27b1 : ((bt a0 (ji15)) != (bt a1 (ji18))) = false := bne_eq_false_iff_eq.mpr c27
                                  clear c27
                                  (first | rw [c27b0] | (simp only [i64_w, i32_w]; rw [c27b0]) | skip)
                                  have H' := Aside0.mk H
                                  clear H
                                  go_wp2
                                  repeat (go_quiet (fail); try go_wp2)
                                  go_meet
                                  case rel => exact ⟨_, (rd (rd_L3 x5_1 (ji15)) (ji18)), (by first | rfl | (simp; done) | (simp only [← hji15, ← hji18] <;> (first | rfl | simp)) | (simp [*]; done)), H', ⟨by have := HK1.out; have := HK2.out; first | omega | exact Nat.le_refl _⟩, ⟨by (with_reducible repeat (first | apply Kd.S_alloc | apply Kd.S_drewN | apply Kd.S_drew)); exact HO_5.out⟩, ⟨by (with_reducible repeat (first | apply Kd.R_alloc | apply Kd.R_drewN | apply Kd.R_drew)); exact HO_7.out⟩, ⟨by repeat (first | (with_reducible exact HR277_0.out) | (with_reducible refine Kd.C_alloc ?_ _) | (with_reducible refine Kd.C_drewN ?_ _) | (with_reducible refine Kd.C_drew ?_) | exact HR277_0.out)⟩, ⟨by repeat (first | (with_reducible first | exact HB.out | apply below_alloc | apply pw_below_drewN | apply below_drew1) | exact HB.out)⟩⟩
                                · rw [if_neg c27] at H
                                  have c27b0 : ((bt a0 (ji15)) == (bt a1 (ji18))) = false := beq_eq_false_iff_ne.mpr c27
                                  have c27b1 : ((bt a0 (ji15)) != (bt a1 (ji18))) = true := bne_iff_ne.mpr c27
                                  (first | rw [c27b0] | (simp only [i64_w, i32_w]; rw [c27b0]) | skip)
                                  have H' := Aside0.mk H
                                  clear H
                                  go_wp2
                                  repeat (go_quiet (fail); try go_wp2)
                                  go_meet
                                  case rel => exact ⟨_, (wrap64 ((rd (rd_L3 x5_1 (ji15)) (ji18)) + 1)), (by first | rfl | (simp; done) | (simp only [← hji15, ← hji18] <;> (first | rfl | simp)) | (simp [*]; done)), H', ⟨by have := HK1.out; have := HK2.out; first | omega | exact Nat.le_refl _⟩, ⟨by (with_reducible repeat (first | apply Kd.S_alloc | apply Kd.S_drewN | apply Kd.S_drew)); exact HO_5.out⟩, ⟨by (with_reducible repeat (first | apply Kd.R_alloc | apply Kd.R_drewN | apply Kd.R_drew)); exact HO_7.out⟩, ⟨by repeat (first | (with_reducible exact HR277_0.out) | (with_reducible refine Kd.C_alloc ?_ _) | (with_reducible refine Kd.C_drewN ?_ _) | (with_reducible refine Kd.C_drew ?_) | exact HR277_0.out)⟩, ⟨by repeat (first | (with_reducible first | exact HB.out | apply below_alloc | apply pw_below_drewN | apply below_drew1) | exact HB.out)⟩⟩
                              case rest =>
                                clear HC25
                                try clear c1
                                try clear c2
                                try clear p2
                                try clear q2
                                try clear hx2
                                try clear c5
                                try clear c5b0
                                try clear p6
                                try clear c8
                                try clear c8b0
                                try clear c9
                                try clear c9b0
                                try clear c9b1
                                try clear c10
                                try clear c12
                                try clear c12b0
                                try clear c12b1
                                try clear c13
                                try clear c16
                                try clear c16b0
                                try clear c17
                                try clear c17b0
                                try clear c19
                                try clear c19b0
                                try clear c20
                                try clear c20b0
                                try clear c21
                                try clear c21b0
                                try clear p22
                                try clear q22
                                try clear hx22
                                try clear c23
                                try clear c23b0
                                try clear p24
                                try clear q24
                                try clear hx24
                                try clear c27
                                try clear c27b0
                                try clear c27b1
                                try clear p27
                                try clear q27
                                try clear hx27
                                try clear hx277_0
                                try clear hx278_0
                                try clear p2
                                try clear p22
                                try clear p24
                                try clear p277
                                try clear p278
                                try clear q22
                                try clear q24
                                try clear q277
                                try clear q278
                                obtain ⟨kq, x9_24, rfl, HA, HJ24, HO_5, HO_7, HR277_0, HB⟩ := hcut
                                cases kq with
                                | zero => exact absurd HA.out (by simp [spec_l1Far.j2])
                                | succ kj24 =>
                                  have H := HA.out
                                  clear HA
                                  simp only [spec_l1Far.j2] at H
                                  obtain ⟨ji28, hji28⟩ : ∃ j_ : Int, (wrap64 (x6_1 - 1)) = j_ := ⟨_, rfl⟩
                                  replace H : (if 0 ≤ (ji28) then (if (ji28) < (x5_1.length : Int) then (if 0 ≤ x8_2 then (if x8_2 < ((rd_L3 x5_1 (ji28)).length : Int) then (if 0 ≤ (wrap64 (x8_2 - 1)) then (if (wrap64 (x8_2 - 1)) < (x7_2.length : Int) then ((spec_l1Least.f (wrap64 ((rd (rd_L3 x5_1 (ji28)) x8_2) + 1)) (wrap64 ((rd x7_2 (wrap64 (x8_2 - 1))) + 1))).bind fun t282 => ((spec_l1Least.f x9_24 t282).bind fun t283 => (if x6_1 > 1 then (if x8_2 > 1 then (if (ji28) < (a0.size : Int) then (if 0 ≤ (wrap64 (x8_2 - 2)) then (if (wrap64 (x8_2 - 2)) < (a1.size : Int) then (if (bt a0 (ji28)) = (bt a1 (wrap64 (x8_2 - 2))) then (if 0 ≤ (wrap64 (x6_1 - 2)) then (if (wrap64 (x6_1 - 2)) < (a0.size : Int) then (if (wrap64 (x8_2 - 1)) < (a1.size : Int) then (spec_l1Far.j3 kj24 a0 a1 x5_1 x6_1 x7_2 x8_2 t283 ((bt a0 (wrap64 (x6_1 - 2))) == (bt a1 (wrap64 (x8_2 - 1))))) else (none)) else (none)) else (none)) else (spec_l1Far.j3 kj24 a0 a1 x5_1 x6_1 x7_2 x8_2 t283 false)) else (none)) else (none)) else (none)) else (spec_l1Far.j3 kj24 a0 a1 x5_1 x6_1 x7_2 x8_2 t283 false)) else (spec_l1Far.j3 kj24 a0 a1 x5_1 x6_1 x7_2 x8_2 t283 false)))) else (none)) else (none)) else (none)) else (none)) else (none)) else (none)) = some r := by first | (rw [hji28] at H; exact H) | (simp only [hji28] at H ⊢; exact H)
                                  have hji28w : (IntKind.i64.wrap (x6_1 - 1)) = ji28 := (i64_w _).trans hji28
                                  (try clear hji15w)
                                  by_cases c29 : 0 ≤ (ji28)
                                  · rw [if_pos c29] at H
                                    have c29b0 : decide (0 ≤ (ji28)) = true := decide_eq_true c29
                                    clear c29
                                    by_cases c30 : (ji28) < (x5_1.length : Int)
                                    · rw [if_pos c30] at H
                                      have c30b0 : decide ((ji28) < (x5_1.length : Int)) = true := decide_eq_true c30
                                      clear c30
                                      by_cases c31 : 0 ≤ x8_2
                                      · rw [if_pos c31] at H
                                        have c31b0 : decide (0 ≤ x8_2) = true := decide_eq_true c31
                                        clear c31
                                        by_cases c32 : x8_2 < ((rd_L3 x5_1 (ji28)).length : Int)
                                        · rw [if_pos c32] at H
                                          have c32b0 : decide (x8_2 < ((rd_L3 x5_1 (ji28)).length : Int)) = true := decide_eq_true c32
                                          clear c32
                                          obtain ⟨ji33, hji33⟩ : ∃ j_ : Int, (wrap64 (x8_2 - 1)) = j_ := ⟨_, rfl⟩
                                          replace H : (if 0 ≤ (ji33) then (if (ji33) < (x7_2.length : Int) then ((spec_l1Least.f (wrap64 ((rd (rd_L3 x5_1 (ji28)) x8_2) + 1)) (wrap64 ((rd x7_2 (ji33)) + 1))).bind fun t282 => ((spec_l1Least.f x9_24 t282).bind fun t283 => (if x6_1 > 1 then (if x8_2 > 1 then (if (ji28) < (a0.size : Int) then (if 0 ≤ (wrap64 (x8_2 - 2)) then (if (wrap64 (x8_2 - 2)) < (a1.size : Int) then (if (bt a0 (ji28)) = (bt a1 (wrap64 (x8_2 - 2))) then (if 0 ≤ (wrap64 (x6_1 - 2)) then (if (wrap64 (x6_1 - 2)) < (a0.size : Int) then (if (ji33) < (a1.size : Int) then (spec_l1Far.j3 kj24 a0 a1 x5_1 x6_1 x7_2 x8_2 t283 ((bt a0 (wrap64 (x6_1 - 2))) == (bt a1 (ji33)))) else (none)) else (none)) else (none)) else (spec_l1Far.j3 kj24 a0 a1 x5_1 x6_1 x7_2 x8_2 t283 false)) else (none)) else (none)) else (none)) else (spec_l1Far.j3 kj24 a0 a1 x5_1 x6_1 x7_2 x8_2 t283 false)) else (spec_l1Far.j3 kj24 a0 a1 x5_1 x6_1 x7_2 x8_2 t283 false)))) else (none)) else (none)) = some r := by first | (rw [hji33] at H; exact H) | (simp only [hji33] at H ⊢; exact H)
                                          have hji33w : (IntKind.i64.wrap (x8_2 - 1)) = ji33 := (i64_w _).trans hji33
                                          (try clear hji18w)
                                          by_cases c34 : 0 ≤ (ji33)
                                          · rw [if_pos c34] at H
                                            have c34b0 : decide (0 ≤ (ji33)) = true := decide_eq_true c34
                                            clear c34
                                            by_cases c35 : (ji33) < (x7_2.length : Int)
                                            · rw [if_pos c35] at H
                                              have c35b0 : decide ((ji33) < (x7_2.length : Int)) = true := decide_eq_true c35
                                              clear c35
                                              replace H := Option.bind_eq_some_iff.mp H
                                              obtain ⟨t282, A360, H⟩ := H
                                              replace H : ((spec_l1Least.f x9_24 t282).bind fun t283 => (if x6_1 > 1 then (if x8_2 > 1 then (if (ji28) < (a0.size : Int) then (if 0 ≤ (wrap64 (x8_2 - 2)) then (if (wrap64 (x8_2 - 2)) < (a1.size : Int) then (if (bt a0 (ji28)) = (bt a1 (wrap64 (x8_2 - 2))) then (if 0 ≤ (wrap64 (x6_1 - 2)) then (if (wrap64 (x6_1 - 2)) < (a0.size : Int) then (if (ji33) < (a1.size : Int) then (spec_l1Far.j3 kj24 a0 a1 x5_1 x6_1 x7_2 x8_2 t283 ((bt a0 (wrap64 (x6_1 - 2))) == (bt a1 (ji33)))) else (none)) else (none)) else (none)) else (spec_l1Far.j3 kj24 a0 a1 x5_1 x6_1 x7_2 x8_2 t283 false)) else (none)) else (none)) else (none)) else (spec_l1Far.j3 kj24 a0 a1 x5_1 x6_1 x7_2 x8_2 t283 false)) else (spec_l1Far.j3 kj24 a0 a1 x5_1 x6_1 x7_2 x8_2 t283 false))) = some r := H
                                              have A36 := Aside0.mk A360
                                              clear A360
                                              replace H := Option.bind_eq_some_iff.mp H
                                              obtain ⟨t283, A370, H⟩ := H
                                              replace H : (if x6_1 > 1 then (if x8_2 > 1 then (if (ji28) < (a0.size : Int) then (if 0 ≤ (wrap64 (x8_2 - 2)) then (if (wrap64 (x8_2 - 2)) < (a1.size : Int) then (if (bt a0 (ji28)) = (bt a1 (wrap64 (x8_2 - 2))) then (if 0 ≤ (wrap64 (x6_1 - 2)) then (if (wrap64 (x6_1 - 2)) < (a0.size : Int) then (if (ji33) < (a1.size : Int) then (spec_l1Far.j3 kj24 a0 a1 x5_1 x6_1 x7_2 x8_2 t283 ((bt a0 (wrap64 (x6_1 - 2))) == (bt a1 (ji33)))) else (none)) else (none)) else (none)) else (spec_l1Far.j3 kj24 a0 a1 x5_1 x6_1 x7_2 x8_2 t283 false)) else (none)) else (none)) else (none)) else (spec_l1Far.j3 kj24 a0 a1 x5_1 x6_1 x7_2 x8_2 t283 false)) else (spec_l1Far.j3 kj24 a0 a1 x5_1 x6_1 x7_2 x8_2 t283 false)) = some r := H
                                              have A37 := Aside0.mk A370
                                              clear A370
                                              have HC38 := Aside0.mk H
                                              clear H
                                              have p279 : 0 ≤ ((ji28) : Int) := of_decide_eq_true (by first | (with_reducible assumption) | assumption)
                                              have q279 : (ji28) < (x5_1.length : Int) := of_decide_eq_true (by first | (with_reducible assumption) | assumption)
                                              obtain ⟨ad279, A279_0, c279_0, e279, hx279_0, hl279_0, hi279_0⟩ := at_L3 (Kd.S_reads' HO_5.out).2.2 (ji28) p279 q279
                                              obtain rfl : ad277 = ad279 := (by injection e279)
                                              obtain ⟨ce279, hce279, hMe279, hcc279⟩ := Kd.S_get HO_5.out [] (ji28) p279 (by first | exact q279 | exact of_decide_eq_true (by first | (with_reducible assumption) | assumption) | (have e_ := (Kd.S_reads' HO_5.out).1; omega))
                                              obtain ⟨ve279_0, rfl, ge279_0⟩ := hMe279
                                              have hv279_0 := hcc279 0 _ rfl
                                              rw [Nat.add_zero, show ((Kd.slice 3 (Kd.int .i64))).sz = 1 from rfl, Nat.mul_one] at hv279_0
                                              replace hv279_0 := Option.some.inj (hv279_0.symm.trans hx279_0)
                                              rw [hv279_0] at ge279_0
                                              have HL279_0 := Aside0.mk (show Kd.R (Kd.int .i64) 3 _ _ _ _ (rd_L3 x5_1 (ji28)) from ge279_0)
                                              clear hv279_0 ge279_0
                                              clear hcc279 hce279
                                              have HR279_0 := Aside0.mk hi279_0
                                              have HC279_0 := Aside0.mk hl279_0
                                              clear hi279_0 hl279_0
                                              replace p279 := eq_true p279
                                              replace q279 := eq_true q279
                                              have p280 : 0 ≤ (x8_2 : Int) := of_decide_eq_true (by first | (with_reducible assumption) | assumption)
                                              have q280 : x8_2 < ((rd_L3 x5_1 (ji28)).length : Int) := of_decide_eq_true (by first | (with_reducible assumption) | assumption)
                                              obtain ⟨ad280, e280, hx280_0⟩ := Kd.at_int (by repeat (first | (with_reducible exact HR279_0.out) | (with_reducible refine Kd.C_alloc ?_ _) | (with_reducible refine Kd.C_drewN ?_ _) | (with_reducible refine Kd.C_drew ?_) | exact HR279_0.out)) x8_2 p280 q280
                                              cases e280
                                              replace p280 := eq_true p280
                                              replace q280 := eq_true q280
                                              obtain ⟨Ao39, co39, eo39⟩ := Kd.R_slice HO_7.out
                                              subst eo39
                                              have p281 : 0 ≤ ((ji33) : Int) := of_decide_eq_true (by first | (with_reducible assumption) | assumption)
                                              have q281 : (ji33) < (x7_2.length : Int) := of_decide_eq_true (by first | (with_reducible assumption) | assumption)
                                              obtain ⟨ad281, e281, hx281_0⟩ := Kd.at_int (Kd.R_reads' HO_7.out).2.2 (ji33) p281 q281
                                              cases e281
                                              replace p281 := eq_true p281
                                              replace q281 := eq_true q281
                                              go_upto_region 13 with (first | (go_at_call 107; (with_reducible refine (spec_l1Least.calls (wrap64 ((rd (rd_L3 x5_1 (ji28)) x8_2) + 1)) (wrap64 ((rd x7_2 (ji33)) + 1)) t282 _ A36.out).mono ?_); rintro e w' ⟨rfl, ⟨nd, rfl⟩⟩; (try first | exact ⟨rfl, _, World.drewN_drewN _ _ _⟩ | exact ⟨rfl, _, Eq.trans (World.drewN_drewN _ _ _) (congrArg (World.drewN _) (Nat.add_assoc _ _ _))⟩)) | (go_at_call 107; (with_reducible refine (spec_l1Least.calls x9_24 t282 t283 _ A37.out).mono ?_); rintro e w' ⟨rfl, ⟨nd, rfl⟩⟩; (try first | exact ⟨rfl, _, World.drewN_drewN _ _ _⟩ | exact ⟨rfl, _, Eq.trans (World.drewN_drewN _ _ _) (congrArg (World.drewN _) (Nat.add_assoc _ _ _))⟩)))
                                              repeat (go_quiet (first | (go_at_call 107; (with_reducible refine (spec_l1Least.calls (wrap64 ((rd (rd_L3 x5_1 (ji28)) x8_2) + 1)) (wrap64 ((rd x7_2 (ji33)) + 1)) t282 _ A36.out).mono ?_); rintro e w' ⟨rfl, ⟨nd, rfl⟩⟩; (try first | exact ⟨rfl, _, World.drewN_drewN _ _ _⟩ | exact ⟨rfl, _, Eq.trans (World.drewN_drewN _ _ _) (congrArg (World.drewN _) (Nat.add_assoc _ _ _))⟩)) | (go_at_call 107; (with_reducible refine (spec_l1Least.calls x9_24 t282 t283 _ A37.out).mono ?_); rintro e w' ⟨rfl, ⟨nd, rfl⟩⟩; (try first | exact ⟨rfl, _, World.drewN_drewN _ _ _⟩ | exact ⟨rfl, _, Eq.trans (World.drewN_drewN _ _ _) (congrArg (World.drewN _) (Nat.add_assoc _ _ _))⟩))); go_upto_region 13 with (first | (go_at_call 107; (with_reducible refine (spec_l1Least.calls (wrap64 ((rd (rd_L3 x5_1 (ji28)) x8_2) + 1)) (wrap64 ((rd x7_2 (ji33)) + 1)) t282 _ A36.out).mono ?_); rintro e w' ⟨rfl, ⟨nd, rfl⟩⟩; (try first | exact ⟨rfl, _, World.drewN_drewN _ _ _⟩ | exact ⟨rfl, _, Eq.trans (World.drewN_drewN _ _ _) (congrArg (World.drewN _) (Nat.add_assoc _ _ _))⟩)) | (go_at_call 107; (with_reducible refine (spec_l1Least.calls x9_24 t282 t283 _ A37.out).mono ?_); rintro e w' ⟨rfl, ⟨nd, rfl⟩⟩; (try first | exact ⟨rfl, _, World.drewN_drewN _ _ _⟩ | exact ⟨rfl, _, Eq.trans (World.drewN_drewN _ _ _) (congrArg (World.drewN _) (Nat.add_assoc _ _ _))⟩))))
                                              (try simp only [Act.put, List.setIfInBounds_toArray, List.set_cons_zero, List.set_cons_succ])
                                              go_cut [89] (fun v89 wc => ∃ (kq : Nat) (x89_37 : Bool), v89 = .bool x89_37 ∧ Aside0 (spec_l1Far.j3 kq a0 a1 x5_1 x6_1 x7_2 x8_2 t283 x89_37 = some r) ∧ Aside0 (kq ≤ kj24) ∧ Aside0 (Kd.S (Kd.slice 3 (Kd.int .i64)) 102 wc w.heap.size (fun k_ => some k_ ≠ ((.slice (some ad281) x7_2.length co39) : Value).ownBlock) (.slice (some ad277) x5_1.length co26) x5_1) ∧ Aside0 (Kd.R (Kd.int .i64) 3 wc w.heap.size (fun _ => True) (.slice (some ad281) x7_2.length co39) x7_2) ∧ Aside0 (Kd.C (Kd.int .i64) wc (some ad278) (rd_L3 x5_1 (ji15)).length (rd_L3 x5_1 (ji15))) ∧ Aside0 (Kd.C (Kd.int .i64) wc (some ad280) (rd_L3 x5_1 (ji28)).length (rd_L3 x5_1 (ji28))) ∧ Aside0 (Below w.heap.size w wc))
                                              case first =>
                                                have H := HC38.out
                                                clear HC38
                                                by_cases c40 : x6_1 > 1
                                                · rw [if_pos c40] at H
                                                  have c40b0 : decide (1 < x6_1) = true := decide_eq_true c40
                                                  clear c40
                                                  (first | rw [c40b0] | (simp only [i64_w, i32_w]; rw [c40b0]) | skip)
                                                  by_cases c41 : x8_2 > 1
                                                  · rw [if_pos c41] at H
                                                    have c41b0 : decide (1 < x8_2) = true := decide_eq_true c41
                                                    clear c41
                                                    by_cases c42 : (ji28) < (a0.size : Int)
                                                    · rw [if_pos c42] at H
                                                      have c42b0 : decide ((ji28) < (a0.size : Int)) = true := decide_eq_true c42
                                                      clear c42
                                                      obtain ⟨ji44, hji44⟩ : ∃ j_ : Int, (wrap64 (x8_2 - 2)) = j_ := ⟨_, rfl⟩
                                                      replace H : (if 0 ≤ (ji44) then (if (ji44) < (a1.size : Int) then (if (bt a0 (ji28)) = (bt a1 (ji44)) then (if 0 ≤ (wrap64 (x6_1 - 2)) then (if (wrap64 (x6_1 - 2)) < (a0.size : Int) then (if (ji33) < (a1.size : Int) then (spec_l1Far.j3 kj24 a0 a1 x5_1 x6_1 x7_2 x8_2 t283 ((bt a0 (wrap64 (x6_1 - 2))) == (bt a1 (ji33)))) else (none)) else (none)) else (none)) else (spec_l1Far.j3 kj24 a0 a1 x5_1 x6_1 x7_2 x8_2 t283 false)) else (none)) else (none)) = some r := by first | (rw [hji44] at H; exact H) | (simp only [hji44] at H ⊢; exact H)
                                                      have hji44w : (IntKind.i64.wrap (x8_2 - 2)) = ji44 := (i64_w _).trans hji44
                                                      by_cases c45 : 0 ≤ (ji44)
                                                      · rw [if_pos c45] at H
                                                        have c45b0 : decide (0 ≤ (ji44)) = true := decide_eq_true c45
                                                        clear c45
                                                        by_cases c46 : (ji44) < (a1.size : Int)
                                                        · rw [if_pos c46] at H
                                                          have c46b0 : decide ((ji44) < (a1.size : Int)) = true := decide_eq_true c46
                                                          clear c46
                                                          by_cases c48 : (bt a0 (ji28)) = (bt a1 (ji44))
                                                          · rw [if_pos c48] at H
                                                            have c48b0 : ((bt a0 (ji28)) == (bt a1 (ji44))) = true := beq_iff_eq.mpr c48
                                                            have c48b1 : ((bt a0 (ji28)) != (bt a1 (ji44))) = false := bne_eq_false_iff_eq.mpr c48
                                                            clear c48
                                                            obtain ⟨ji49, hji49⟩ : ∃ j_ : Int, (wrap64 (x6_1 - 2)) = j_ := ⟨_, rfl⟩
                                                            replace H : (if 0 ≤ (ji49) then (if (ji49) < (a0.size : Int) then (if (ji33) < (a1.size : Int) then (spec_l1Far.j3 kj24 a0 a1 x5_1 x6_1 x7_2 x8_2 t283 ((bt a0 (ji49)) == (bt a1 (ji33)))) else (none)) else (none)) else (none)) = some r := by first | (rw [hji49] at H; exact H) | (simp only [hji49] at H ⊢; exact H)
                                                            have hji49w : (IntKind.i64.wrap (x6_1 - 2)) = ji49 := (i64_w _).trans hji49
                                                            by_cases c50 : 0 ≤ (ji49)
                                                            · rw [if_pos c50] at H
                                                              have c50b0 : decide (0 ≤ (ji49)) = true := decide_eq_true c50
                                                              clear c50
                                                              by_cases c51 : (ji49) < (a0.size : Int)
                                                              · rw [if_pos c51] at H
                                                                have c51b0 : decide ((ji49) < (a0.size : Int)) = true := decide_eq_true c51
                                                                clear c51
                                                                by_cases c53 : (ji33) < (a1.size : Int)
                                                                · rw [if_pos c53] at H
                                                                  have c53b0 : decide ((ji33) < (a1.size : Int)) = true := decide_eq_true c53
                                                                  clear c53
                                                                  have H' := Aside0.mk H
                                                                  clear H
                                                                  have p43 : 0 ≤ ((ji28) : Int) := of_decide_eq_true (by first | (with_reducible assumption) | assumption)
                                                                  have q43 : (ji28) < (a0.size : Int) := of_decide_eq_true (by first | (with_reducible assumption) | assumption)
                                                                  have hx43 := bt_at a0 (ji28)
                                                                  replace p43 := eq_true p43
                                                                  replace q43 := eq_true q43
                                                                  have p47 : 0 ≤ ((ji44) : Int) := of_decide_eq_true (by first | (with_reducible assumption) | assumption)
                                                                  have q47 : (ji44) < (a1.size : Int) := of_decide_eq_true (by first | (with_reducible assumption) | assumption)
                                                                  have hx47 := bt_at a1 (ji44)
                                                                  replace p47 := eq_true p47
                                                                  replace q47 := eq_true q47
                                                                  have p52 : 0 ≤ ((ji49) : Int) := of_decide_eq_true (by first | (with_reducible assumption) | assumption)
                                                                  have q52 : (ji49) < (a0.size : Int) := of_decide_eq_true (by first | (with_reducible assumption) | assumption)
                                                                  have hx52 := bt_at a0 (ji49)
                                                                  replace p52 := eq_true p52
                                                                  replace q52 := eq_true q52
                                                                  have p54 : 0 ≤ ((ji33) : Int) := of_decide_eq_true (by first | (with_reducible assumption) | assumption)
                                                                  have q54 : (ji33) < (a1.size : Int) := of_decide_eq_true (by first | (with_reducible assumption) | assumption)
                                                                  have hx54 := bt_at a1 (ji33)
                                                                  replace p54 := eq_true p54
                                                                  replace q54 := eq_true q54
                                                                  go_wp2
                                                                  repeat (go_quiet (fail); try go_wp2)
                                                                  go_meet
                                                                  case rel => exact ⟨_, (((bt a0 (ji49)) == (bt a1 (ji33)))), (by first | rfl | (simp; done) | (simp only [← hji33, ← hji49] <;> (first | rfl | simp)) | (simp [*]; done)), H', ⟨by have := HK1.out; have := HK2.out; have := HJ24.out; first | omega | exact Nat.le_refl _⟩, ⟨by (with_reducible repeat (first | apply Kd.S_alloc | apply Kd.S_drewN | apply Kd.S_drew)); exact HO_5.out⟩, ⟨by (with_reducible repeat (first | apply Kd.R_alloc | apply Kd.R_drewN | apply Kd.R_drew)); exact HO_7.out⟩, ⟨by repeat (first | (with_reducible exact HR277_0.out) | (with_reducible refine Kd.C_alloc ?_ _) | (with_reducible refine Kd.C_drewN ?_ _) | (with_reducible refine Kd.C_drew ?_) | exact HR277_0.out)⟩, ⟨by repeat (first | (with_reducible exact HR279_0.out) | (with_reducible refine Kd.C_alloc ?_ _) | (with_reducible refine Kd.C_drewN ?_ _) | (with_reducible refine Kd.C_drew ?_) | exact HR279_0.out)⟩, ⟨by repeat (first | (with_reducible first | exact HB.out | apply below_alloc | apply pw_below_drewN | apply below_drew1) | exact HB.out)⟩⟩
                                                                · rw [if_neg c53] at H
                                                                  exact absurd H (by simp)
                                                              · rw [if_neg c51] at H
                                                                exact absurd H (by simp)
                                                            · rw [if_neg c50] at H
                                                              exact absurd H (by simp)
                                                          · rw [if_neg c48] at H
                                                            have c48b0 : ((bt a0 (ji28)) == (bt a1 (ji44))) = false := beq_eq_false_iff_ne.mpr c48
                                                            have c48b1 : ((bt a0 (ji28)) != (bt a1 (ji44))) = true := bne_iff_ne.mpr c48
                                                            have H' := Aside0.mk H
                                                            clear H
                                                            have p43 : 0 ≤ ((ji28) : Int) := of_decide_eq_true (by first | (with_reducible assumption) | assumption)
                                                            have q43 : (ji28) < (a0.size : Int) := of_decide_eq_true (by first | (with_reducible assumption) | assumption)
                                                            have hx43 := bt_at a0 (ji28)
                                                            replace p43 := eq_true p43
                                                            replace q43 := eq_true q43
                                                            have p47 : 0 ≤ ((ji44) : Int) := of_decide_eq_true (by first | (with_reducible assumption) | assumption)
                                                            have q47 : (ji44) < (a1.size : Int) := of_decide_eq_true (by first | (with_reducible assumption) | assumption)
                                                            have hx47 := bt_at a1 (ji44)
                                                            replace p47 := eq_true p47
                                                            replace q47 := eq_true q47
                                                            go_wp2
                                                            repeat (go_quiet (fail); try go_wp2)
                                                            go_meet
                                                            case rel => exact ⟨_, (false), (by first | rfl | (simp; done) | (simp [*]; done)), H', ⟨by have := HK1.out; have := HK2.out; have := HJ24.out; first | omega | exact Nat.le_refl _⟩, ⟨by (with_reducible repeat (first | apply Kd.S_alloc | apply Kd.S_drewN | apply Kd.S_drew)); exact HO_5.out⟩, ⟨by (with_reducible repeat (first | apply Kd.R_alloc | apply Kd.R_drewN | apply Kd.R_drew)); exact HO_7.out⟩, ⟨by repeat (first | (with_reducible exact HR277_0.out) | (with_reducible refine Kd.C_alloc ?_ _) | (with_reducible refine Kd.C_drewN ?_ _) | (with_reducible refine Kd.C_drew ?_) | exact HR277_0.out)⟩, ⟨by repeat (first | (with_reducible exact HR279_0.out) | (with_reducible refine Kd.C_alloc ?_ _) | (with_reducible refine Kd.C_drewN ?_ _) | (with_reducible refine Kd.C_drew ?_) | exact HR279_0.out)⟩, ⟨by repeat (first | (with_reducible first | exact HB.out | apply below_alloc | apply pw_below_drewN | apply below_drew1) | exact HB.out)⟩⟩
                                                        · rw [if_neg c46] at H
                                                          exact absurd H (by simp)
                                                      · rw [if_neg c45] at H
                                                        exact absurd H (by simp)
                                                    · rw [if_neg c42] at H
                                                      exact absurd H (by simp)
                                                  · rw [if_neg c41] at H
                                                    have c41b0 : decide (1 < x8_2) = false := decide_eq_false c41
                                                    clear c41
                                                    have H' := Aside0.mk H
                                                    clear H
                                                    go_wp2
                                                    repeat (go_quiet (fail); try go_wp2)
                                                    go_meet
                                                    case rel => exact ⟨_, (false), (by first | rfl | (simp; done) | (simp [*]; done)), H', ⟨by have := HK1.out; have := HK2.out; have := HJ24.out; first | omega | exact Nat.le_refl _⟩, ⟨by (with_reducible repeat (first | apply Kd.S_alloc | apply Kd.S_drewN | apply Kd.S_drew)); exact HO_5.out⟩, ⟨by (with_reducible repeat (first | apply Kd.R_alloc | apply Kd.R_drewN | apply Kd.R_drew)); exact HO_7.out⟩, ⟨by repeat (first | (with_reducible exact HR277_0.out) | (with_reducible refine Kd.C_alloc ?_ _) | (with_reducible refine Kd.C_drewN ?_ _) | (with_reducible refine Kd.C_drew ?_) | exact HR277_0.out)⟩, ⟨by repeat (first | (with_reducible exact HR279_0.out) | (with_reducible refine Kd.C_alloc ?_ _) | (with_reducible refine Kd.C_drewN ?_ _) | (with_reducible refine Kd.C_drew ?_) | exact HR279_0.out)⟩, ⟨by repeat (first | (with_reducible first | exact HB.out | apply below_alloc | apply pw_below_drewN | apply below_drew1) | exact HB.out)⟩⟩
                                                · rw [if_neg c40] at H
                                                  have c40b0 : decide (1 < x6_1) = false := decide_eq_false c40
                                                  clear c40
                                                  (first | rw [c40b0] | (simp only [i64_w, i32_w]; rw [c40b0]) | skip)
                                                  have H' := Aside0.mk H
                                                  clear H
                                                  go_wp2
                                                  repeat (go_quiet (fail); try go_wp2)
                                                  go_meet
                                                  case rel => exact ⟨_, (false), (by first | rfl | (simp; done) | (simp [*]; done)), H', ⟨by have := HK1.out; have := HK2.out; have := HJ24.out; first | omega | exact Nat.le_refl _⟩, ⟨by (with_reducible repeat (first | apply Kd.S_alloc | apply Kd.S_drewN | apply Kd.S_drew)); exact HO_5.out⟩, ⟨by (with_reducible repeat (first | apply Kd.R_alloc | apply Kd.R_drewN | apply Kd.R_drew)); exact HO_7.out⟩, ⟨by repeat (first | (with_reducible exact HR277_0.out) | (with_reducible refine Kd.C_alloc ?_ _) | (with_reducible refine Kd.C_drewN ?_ _) | (with_reducible refine Kd.C_drew ?_) | exact HR277_0.out)⟩, ⟨by repeat (first | (with_reducible exact HR279_0.out) | (with_reducible refine Kd.C_alloc ?_ _) | (with_reducible refine Kd.C_drewN ?_ _) | (with_reducible refine Kd.C_drew ?_) | exact HR279_0.out)⟩, ⟨by repeat (first | (with_reducible first | exact HB.out | apply below_alloc | apply pw_below_drewN | apply below_drew1) | exact HB.out)⟩⟩
                                              case rest =>
                                                clear HC38
                                                try clear c1
                                                try clear c2
                                                try clear p2
                                                try clear q2
                                                try clear hx2
                                                try clear c3
                                                try clear c4
                                                try clear p4
                                                try clear q4
                                                try clear hx4
                                                try clear c5
                                                try clear c5b0
                                                try clear p5
                                                try clear q5
                                                try clear hx5
                                                try clear p6
                                                try clear c8
                                                try clear c8b0
                                                try clear c9
                                                try clear c9b0
                                                try clear c9b1
                                                try clear c10
                                                try clear c12
                                                try clear c12b0
                                                try clear c12b1
                                                try clear c13
                                                try clear c16
                                                try clear c16b0
                                                try clear c17
                                                try clear c17b0
                                                try clear c19
                                                try clear c19b0
                                                try clear c20
                                                try clear c20b0
                                                try clear c21
                                                try clear c21b0
                                                try clear p22
                                                try clear q22
                                                try clear hx22
                                                try clear c23
                                                try clear c23b0
                                                try clear p24
                                                try clear q24
                                                try clear hx24
                                                try clear c27
                                                try clear c27b0
                                                try clear c27b1
                                                try clear p27
                                                try clear q27
                                                try clear hx27
                                                try clear p28
                                                try clear q28
                                                try clear hx28
                                                try clear c29
                                                try clear c29b0
                                                try clear c30
                                                try clear c30b0
                                                try clear c31
                                                try clear c31b0
                                                try clear c32
                                                try clear c32b0
                                                try clear c34
                                                try clear c34b0
                                                try clear c35
                                                try clear c35b0
                                                try clear c40
                                                try clear c40b0
                                                try clear c41
                                                try clear c41b0
                                                try clear c42
                                                try clear c42b0
                                                try clear p43
                                                try clear q43
                                                try clear hx43
                                                try clear c45
                                                try clear c45b0
                                                try clear c46
                                                try clear c46b0
                                                try clear p47
                                                try clear q47
                                                try clear hx47
                                                try clear c48
                                                try clear c48b0
                                                try clear c48b1
                                                try clear c50
                                                try clear c50b0
                                                try clear c51
                                                try clear c51b0
                                                try clear p52
                                                try clear q52
                                                try clear hx52
                                                try clear c53
                                                try clear c53b0
                                                try clear p54
                                                try clear q54
                                                try clear hx54
                                                try clear hx277_0
                                                try clear hx278_0
                                                try clear hx279_0
                                                try clear hx280_0
                                                try clear hx281_0
                                                try clear p2
                                                try clear p22
                                                try clear p24
                                                try clear p27
                                                try clear p277
                                                try clear p278
                                                try clear p279
                                                try clear p280
                                                try clear p281
                                                try clear p43
                                                try clear p47
                                                try clear p52
                                                try clear p54
                                                try clear p6
                                                try clear q2
                                                try clear q22
                                                try clear q24
                                                try clear q27
                                                try clear q277
                                                try clear q278
                                                try clear q279
                                                try clear q280
                                                try clear q281
                                                try clear q43
                                                try clear q47
                                                try clear q52
                                                try clear q54
                                                obtain ⟨kq, x89_37, rfl, HA, HJ37, HO_5, HO_7, HR277_0, HR279_0, HB⟩ := hcut
                                                cases kq with
                                                | zero => exact absurd HA.out (by simp [spec_l1Far.j3])
                                                | succ kj37 =>
                                                  have H := HA.out
                                                  clear HA
                                                  simp only [spec_l1Far.j3] at H
                                                  by_cases c55 : x89_37 = true
                                                  · subst c55
                                                    have H1 : (if 0 ≤ (wrap64 (x6_1 - 2)) then (if (wrap64 (x6_1 - 2)) < (x5_1.length : Int) then (if 0 ≤ (wrap64 (x8_2 - 2)) then (if (wrap64 (x8_2 - 2)) < ((rd_L3 x5_1 (wrap64 (x6_1 - 2))).length : Int) then ((spec_l1Least.f t283 (wrap64 ((rd (rd_L3 x5_1 (wrap64 (x6_1 - 2))) (wrap64 (x8_2 - 2))) + 1))).bind fun t286 => (if x7_2.length < 17592186044416 then (spec_l1Far.l1 kj37 a0 a1 x5_1 x6_1 (x7_2 ++ [t286]) (wrap64 (x8_2 + 1))) else (none))) else (none)) else (none)) else (none)) else (none)) = some r := by rw [if_pos rfl] at H; exact H
                                                    clear H
                                                    have H := H1
                                                    clear H1
                                                    obtain ⟨ji56, hji56⟩ : ∃ j_ : Int, (wrap64 (x6_1 - 2)) = j_ := ⟨_, rfl⟩
                                                    replace H : (if 0 ≤ (ji56) then (if (ji56) < (x5_1.length : Int) then (if 0 ≤ (wrap64 (x8_2 - 2)) then (if (wrap64 (x8_2 - 2)) < ((rd_L3 x5_1 (ji56)).length : Int) then ((spec_l1Least.f t283 (wrap64 ((rd (rd_L3 x5_1 (ji56)) (wrap64 (x8_2 - 2))) + 1))).bind fun t286 => (if x7_2.length < 17592186044416 then (spec_l1Far.l1 kj37 a0 a1 x5_1 x6_1 (x7_2 ++ [t286]) (wrap64 (x8_2 + 1))) else (none))) else (none)) else (none)) else (none)) else (none)) = some r := by first | (rw [hji56] at H; exact H) | (simp only [hji56] at H ⊢; exact H)
                                                    have hji56w : (IntKind.i64.wrap (x6_1 - 2)) = ji56 := (i64_w _).trans hji56
                                                    (try clear hji49w)
                                                    by_cases c57 : 0 ≤ (ji56)
                                                    · rw [if_pos c57] at H
                                                      have c57b0 : decide (0 ≤ (ji56)) = true := decide_eq_true c57
                                                      clear c57
                                                      by_cases c58 : (ji56) < (x5_1.length : Int)
                                                      · rw [if_pos c58] at H
                                                        have c58b0 : decide ((ji56) < (x5_1.length : Int)) = true := decide_eq_true c58
                                                        clear c58
                                                        obtain ⟨ji59, hji59⟩ : ∃ j_ : Int, (wrap64 (x8_2 - 2)) = j_ := ⟨_, rfl⟩
                                                        replace H : (if 0 ≤ (ji59) then (if (ji59) < ((rd_L3 x5_1 (ji56)).length : Int) then ((spec_l1Least.f t283 (wrap64 ((rd (rd_L3 x5_1 (ji56)) (ji59)) + 1))).bind fun t286 => (if x7_2.length < 17592186044416 then (spec_l1Far.l1 kj37 a0 a1 x5_1 x6_1 (x7_2 ++ [t286]) (wrap64 (x8_2 + 1))) else (none))) else (none)) else (none)) = some r := by first | (rw [hji59] at H; exact H) | (simp only [hji59] at H ⊢; exact H)
                                                        have hji59w : (IntKind.i64.wrap (x8_2 - 2)) = ji59 := (i64_w _).trans hji59
                                                        (try clear hji44w)
                                                        by_cases c60 : 0 ≤ (ji59)
                                                        · rw [if_pos c60] at H
                                                          have c60b0 : decide (0 ≤ (ji59)) = true := decide_eq_true c60
                                                          clear c60
                                                          by_cases c61 : (ji59) < ((rd_L3 x5_1 (ji56)).length : Int)
                                                          · rw [if_pos c61] at H
                                                            have c61b0 : decide ((ji59) < ((rd_L3 x5_1 (ji56)).length : Int)) = true := decide_eq_true c61
                                                            clear c61
                                                            replace H := Option.bind_eq_some_iff.mp H
                                                            obtain ⟨t286, A620, H⟩ := H
                                                            replace H : (if x7_2.length < 17592186044416 then (spec_l1Far.l1 kj37 a0 a1 x5_1 x6_1 (x7_2 ++ [t286]) (wrap64 (x8_2 + 1))) else (none)) = some r := H
                                                            have A62 := Aside0.mk A620
                                                            clear A620
                                                            by_cases c63 : x7_2.length < 17592186044416
                                                            · rw [if_pos c63] at H
                                                              have LMc63 := Aside0.mk c63
                                                              clear c63
                                                              obtain ⟨y287, hy287⟩ : ∃ y_ : List Int, y_ = (x7_2 ++ [t286]) := ⟨_, rfl⟩
                                                              replace H : (spec_l1Far.l1 kj37 a0 a1 x5_1 x6_1 y287 (wrap64 (x8_2 + 1))) = some r := by first | (rw [hy287]; with_reducible exact H) | (have H2_ := (Option.bind_some _ _).symm.trans H; rw [hy287]; with_reducible exact H2_) | (have H2_ := (Option.bind_some _ _).symm.trans H; with_reducible exact H2_) | with_reducible exact H | (rw [hy287]; exact H) | exact H
                                                              have Ny287 := Aside0.mk hy287
                                                              clear hy287
                                                              have H' := Aside0.mk H
                                                              clear H
                                                              have p284 : 0 ≤ ((ji56) : Int) := of_decide_eq_true (by first | (with_reducible assumption) | assumption)
                                                              have q284 : (ji56) < (x5_1.length : Int) := of_decide_eq_true (by first | (with_reducible assumption) | assumption)
                                                              obtain ⟨ad284, A284_0, c284_0, e284, hx284_0, hl284_0, hi284_0⟩ := at_L3 (Kd.S_reads' HO_5.out).2.2 (ji56) p284 q284
                                                              obtain rfl : ad277 = ad284 := (by injection e284)
                                                              obtain ⟨ce284, hce284, hMe284, hcc284⟩ := Kd.S_get HO_5.out [] (ji56) p284 (by first | exact q284 | exact of_decide_eq_true (by first | (with_reducible assumption) | assumption) | (have e_ := (Kd.S_reads' HO_5.out).1; omega))
                                                              obtain ⟨ve284_0, rfl, ge284_0⟩ := hMe284
                                                              have hv284_0 := hcc284 0 _ rfl
                                                              rw [Nat.add_zero, show ((Kd.slice 3 (Kd.int .i64))).sz = 1 from rfl, Nat.mul_one] at hv284_0
                                                              replace hv284_0 := Option.some.inj (hv284_0.symm.trans hx284_0)
                                                              rw [hv284_0] at ge284_0
                                                              have HL284_0 := Aside0.mk (show Kd.R (Kd.int .i64) 3 _ _ _ _ (rd_L3 x5_1 (ji56)) from ge284_0)
                                                              clear hv284_0 ge284_0
                                                              clear hcc284 hce284
                                                              have HR284_0 := Aside0.mk hi284_0
                                                              have HC284_0 := Aside0.mk hl284_0
                                                              clear hi284_0 hl284_0
                                                              replace p284 := eq_true p284
                                                              replace q284 := eq_true q284
                                                              have p285 : 0 ≤ ((ji59) : Int) := of_decide_eq_true (by first | (with_reducible assumption) | assumption)
                                                              have q285 : (ji59) < ((rd_L3 x5_1 (ji56)).length : Int) := of_decide_eq_true (by first | (with_reducible assumption) | assumption)
                                                              obtain ⟨ad285, e285, hx285_0⟩ := Kd.at_int (by repeat (first | (with_reducible exact HR284_0.out) | (with_reducible refine Kd.C_alloc ?_ _) | (with_reducible refine Kd.C_drewN ?_ _) | (with_reducible refine Kd.C_drew ?_) | exact HR284_0.out)) (ji59) p285 q285
                                                              cases e285
                                                              replace p285 := eq_true p285
                                                              replace q285 := eq_true q285
                                                              go_wp2_with (first | (go_at_call 107; (with_reducible refine (spec_l1Least.calls t283 (wrap64 ((rd (rd_L3 x5_1 (ji56)) (ji59)) + 1)) t286 _ A62.out).mono ?_); rintro e w' ⟨rfl, ⟨nd, rfl⟩⟩; (try first | exact ⟨rfl, _, World.drewN_drewN _ _ _⟩ | exact ⟨rfl, _, Eq.trans (World.drewN_drewN _ _ _) (congrArg (World.drewN _) (Nat.add_assoc _ _ _))⟩)) | ((with_reducible refine gate_builtin (b := .append) (xs := #[.tmp 102, .tmp 104]) rfl ?_); at_builtin; refine Kd.R_append (Kd.int .i64) (w0 := w) w.heap.size rfl (.tmp 102) (.tmp 104) 102 3 (.int .i64 0) 8 rfl Try.underlying102 info3 rfl (by decide) (by omega) (.slice (some ad281) x7_2.length co39) x7_2 t286 [.int .i64 t286] (fun _ => True) (fun _ => False) rfl rfl ?aP (fun _ hk => hk.elim) ?aF ?aO ?aB ?aS ?aL ?_; (case aP => exact rfl); (case aB => exact (by repeat (first | (with_reducible first | exact HB.out | apply below_alloc | apply pw_below_drewN | apply below_drew1) | exact HB.out))); (case aF => exact (fun _ _ => trivial)); (case aO => exact (by (with_reducible repeat (first | apply Kd.R_alloc | apply Kd.R_drewN | apply Kd.R_drew)); exact HO_7.out)); (case aS => exact (below_size (by repeat (first | (with_reducible first | exact HB.out | apply below_alloc | apply pw_below_drewN | apply below_drew1) | exact HB.out)))); (case aL => have := LMc63.out; omega); intro v288 w64 ho hb hg hat; rw [← Ny287.out] at ho; have n0_ := Aside0.mk (Kd.S_after (ok := (fun _ => True)) (by (with_reducible repeat (first | apply Kd.S_alloc | apply Kd.S_drewN | apply Kd.S_drew)); exact Kd.S_mono HO_5.out (fun _ hk => ⟨trivial, hk⟩)) hg hat); have n1_ := Aside0.mk (Kd.R_after (ok := (fun k_ => some k_ ≠ (.slice (some ad277) x5_1.length co26 : Value).ownBlock)) (by (with_reducible repeat (first | apply Kd.R_alloc | apply Kd.R_drewN | apply Kd.R_drew)); exact Kd.R_mono HL284_0.out (fun _ hk => ⟨hk.2, hk.1⟩)) hg hat); have n2_ := Aside0.mk (hb); have n3_ := Aside0.mk (ho); clear HO_5; clear HL284_0; clear HB; clear HO_7; have HO_5 := n0_; have HL284_0 := n1_; have HB := n2_; have HO289 := n3_; clear n0_ n1_ n2_ n3_; clear ho hb hg hat))
                                                              repeat (go_quiet (first | (go_at_call 107; (with_reducible refine (spec_l1Least.calls t283 (wrap64 ((rd (rd_L3 x5_1 (ji56)) (ji59)) + 1)) t286 _ A62.out).mono ?_); rintro e w' ⟨rfl, ⟨nd, rfl⟩⟩; (try first | exact ⟨rfl, _, World.drewN_drewN _ _ _⟩ | exact ⟨rfl, _, Eq.trans (World.drewN_drewN _ _ _) (congrArg (World.drewN _) (Nat.add_assoc _ _ _))⟩)) | ((with_reducible refine gate_builtin (b := .append) (xs := #[.tmp 102, .tmp 104]) rfl ?_); at_builtin; refine Kd.R_append (Kd.int .i64) (w0 := w) w.heap.size rfl (.tmp 102) (.tmp 104) 102 3 (.int .i64 0) 8 rfl Try.underlying102 info3 rfl (by decide) (by omega) (.slice (some ad281) x7_2.length co39) x7_2 t286 [.int .i64 t286] (fun _ => True) (fun _ => False) rfl rfl ?aP (fun _ hk => hk.elim) ?aF ?aO ?aB ?aS ?aL ?_; (case aP => exact rfl); (case aB => exact (by repeat (first | (with_reducible first | exact HB.out | apply below_alloc | apply pw_below_drewN | apply below_drew1) | exact HB.out))); (case aF => exact (fun _ _ => trivial)); (case aO => exact (by (with_reducible repeat (first | apply Kd.R_alloc | apply Kd.R_drewN | apply Kd.R_drew)); exact HO_7.out)); (case aS => exact (below_size (by repeat (first | (with_reducible first | exact HB.out | apply below_alloc | apply pw_below_drewN | apply below_drew1) | exact HB.out)))); (case aL => have := LMc63.out; omega); intro v288 w64 ho hb hg hat; rw [← Ny287.out] at ho; have n0_ := Aside0.mk (Kd.S_after (ok := (fun _ => True)) (by (with_reducible repeat (first | apply Kd.S_alloc | apply Kd.S_drewN | apply Kd.S_drew)); exact Kd.S_mono HO_5.out (fun _ hk => ⟨trivial, hk⟩)) hg hat); have n1_ := Aside0.mk (Kd.R_after (ok := (fun k_ => some k_ ≠ (.slice (some ad277) x5_1.length co26 : Value).ownBlock)) (by (with_reducible repeat (first | apply Kd.R_alloc | apply Kd.R_drewN | apply Kd.R_drew)); exact Kd.R_mono HL284_0.out (fun _ hk => ⟨hk.2, hk.1⟩)) hg hat); have n2_ := Aside0.mk (hb); have n3_ := Aside0.mk (ho); clear HO_5; clear HL284_0; clear HB; clear HO_7; have HO_5 := n0_; have HL284_0 := n1_; have HB := n2_; have HO289 := n3_; clear n0_ n1_ n2_ n3_; clear ho hb hg hat)); try go_wp2_with (first | (go_at_call 107; (with_reducible refine (spec_l1Least.calls t283 (wrap64 ((rd (rd_L3 x5_1 (ji56)) (ji59)) + 1)) t286 _ A62.out).mono ?_); rintro e w' ⟨rfl, ⟨nd, rfl⟩⟩; (try first | exact ⟨rfl, _, World.drewN_drewN _ _ _⟩ | exact ⟨rfl, _, Eq.trans (World.drewN_drewN _ _ _) (congrArg (World.drewN _) (Nat.add_assoc _ _ _))⟩)) | ((with_reducible refine gate_builtin (b := .append) (xs := #[.tmp 102, .tmp 104]) rfl ?_); at_builtin; refine Kd.R_append (Kd.int .i64) (w0 := w) w.heap.size rfl (.tmp 102) (.tmp 104) 102 3 (.int .i64 0) 8 rfl Try.underlying102 info3 rfl (by decide) (by omega) (.slice (some ad281) x7_2.length co39) x7_2 t286 [.int .i64 t286] (fun _ => True) (fun _ => False) rfl rfl ?aP (fun _ hk => hk.elim) ?aF ?aO ?aB ?aS ?aL ?_; (case aP => exact rfl); (case aB => exact (by repeat (first | (with_reducible first | exact HB.out | apply below_alloc | apply pw_below_drewN | apply below_drew1) | exact HB.out))); (case aF => exact (fun _ _ => trivial)); (case aO => exact (by (with_reducible repeat (first | apply Kd.R_alloc | apply Kd.R_drewN | apply Kd.R_drew)); exact HO_7.out)); (case aS => exact (below_size (by repeat (first | (with_reducible first | exact HB.out | apply below_alloc | apply pw_below_drewN | apply below_drew1) | exact HB.out)))); (case aL => have := LMc63.out; omega); intro v288 w64 ho hb hg hat; rw [← Ny287.out] at ho; have n0_ := Aside0.mk (Kd.S_after (ok := (fun _ => True)) (by (with_reducible repeat (first | apply Kd.S_alloc | apply Kd.S_drewN | apply Kd.S_drew)); exact Kd.S_mono HO_5.out (fun _ hk => ⟨trivial, hk⟩)) hg hat); have n1_ := Aside0.mk (Kd.R_after (ok := (fun k_ => some k_ ≠ (.slice (some ad277) x5_1.length co26 : Value).ownBlock)) (by (with_reducible repeat (first | apply Kd.R_alloc | apply Kd.R_drewN | apply Kd.R_drew)); exact Kd.R_mono HL284_0.out (fun _ hk => ⟨hk.2, hk.1⟩)) hg hat); have n2_ := Aside0.mk (hb); have n3_ := Aside0.mk (ho); clear HO_5; clear HL284_0; clear HB; clear HO_7; have HO_5 := n0_; have HL284_0 := n1_; have HB := n2_; have HO289 := n3_; clear n0_ n1_ n2_ n3_; clear ho hb hg hat)))
                                                              go_roundg kj37
                                                              case measure => have := HK1.out; have := HK2.out; have := HJ24.out; have := HJ37.out; omega
                                                              case rel => exact ⟨(y287), (wrap64 (x8_2 + 1)), (by first | rfl | (simp; done) | (simp [*]; done)), H', ⟨by have := HK1.out; have := HK2.out; have := HJ24.out; have := HJ37.out; omega⟩, ⟨by (with_reducible repeat (first | apply Kd.S_alloc | apply Kd.S_drewN | apply Kd.S_drew)); exact Kd.S_mono HO_5.out (fun _ hk => hk.2)⟩, ⟨by (with_reducible repeat (first | apply Kd.R_alloc | apply Kd.R_drewN | apply Kd.R_drew)); exact HO289.out⟩, ⟨by repeat (first | (with_reducible first | exact HB.out | apply below_alloc | apply pw_below_drewN | apply below_drew1) | exact HB.out)⟩⟩
                                                            · rw [if_neg c63] at H
                                                              exact absurd H (by simp)
                                                          · rw [if_neg c61] at H
                                                            exact absurd H (by simp)
                                                        · rw [if_neg c60] at H
                                                          exact absurd H (by simp)
                                                      · rw [if_neg c58] at H
                                                        exact absurd H (by simp)
                                                    · rw [if_neg c57] at H
                                                      exact absurd H (by simp)
                                                  · replace c55 := Bool.eq_false_iff.mpr c55
                                                    subst c55
                                                    have H1 : (if x7_2.length < 17592186044416 then (spec_l1Far.l1 kj37 a0 a1 x5_1 x6_1 (x7_2 ++ [t283]) (wrap64 (x8_2 + 1))) else (none)) = some r := by rw [if_neg (show ¬ (false = true) by decide)] at H; exact H
                                                    clear H
                                                    have H := H1
                                                    clear H1
                                                    by_cases c65 : x7_2.length < 17592186044416
                                                    · rw [if_pos c65] at H
                                                      have LMc65 := Aside0.mk c65
                                                      clear c65
                                                      obtain ⟨y290, hy290⟩ : ∃ y_ : List Int, y_ = (x7_2 ++ [t283]) := ⟨_, rfl⟩
                                                      replace H : (spec_l1Far.l1 kj37 a0 a1 x5_1 x6_1 y290 (wrap64 (x8_2 + 1))) = some r := by first | (rw [hy290]; with_reducible exact H) | (have H2_ := (Option.bind_some _ _).symm.trans H; rw [hy290]; with_reducible exact H2_) | (have H2_ := (Option.bind_some _ _).symm.trans H; with_reducible exact H2_) | with_reducible exact H | (rw [hy290]; exact H) | exact H
                                                      have Ny290 := Aside0.mk hy290
                                                      clear hy290
                                                      have H' := Aside0.mk H
                                                      clear H
                                                      go_wp2_with (first | ((with_reducible refine gate_builtin (b := .append) (xs := #[.tmp 102, .tmp 104]) rfl ?_); at_builtin; refine Kd.R_append (Kd.int .i64) (w0 := w) w.heap.size rfl (.tmp 102) (.tmp 104) 102 3 (.int .i64 0) 8 rfl Try.underlying102 info3 rfl (by decide) (by omega) (.slice (some ad281) x7_2.length co39) x7_2 t283 [.int .i64 t283] (fun _ => True) (fun _ => False) rfl rfl ?aP (fun _ hk => hk.elim) ?aF ?aO ?aB ?aS ?aL ?_; (case aP => exact rfl); (case aB => exact (by repeat (first | (with_reducible first | exact HB.out | apply below_alloc | apply pw_below_drewN | apply below_drew1) | exact HB.out))); (case aF => exact (fun _ _ => trivial)); (case aO => exact (by (with_reducible repeat (first | apply Kd.R_alloc | apply Kd.R_drewN | apply Kd.R_drew)); exact HO_7.out)); (case aS => exact (below_size (by repeat (first | (with_reducible first | exact HB.out | apply below_alloc | apply pw_below_drewN | apply below_drew1) | exact HB.out)))); (case aL => have := LMc65.out; omega); intro v291 w66 ho hb hg hat; rw [← Ny290.out] at ho; have n0_ := Aside0.mk (Kd.S_after (ok := (fun _ => True)) (by (with_reducible repeat (first | apply Kd.S_alloc | apply Kd.S_drewN | apply Kd.S_drew)); exact Kd.S_mono HO_5.out (fun _ hk => ⟨trivial, hk⟩)) hg hat); have n1_ := Aside0.mk (hb); have n2_ := Aside0.mk (ho); clear HO_5; clear HB; clear HO_7; have HO_5 := n0_; have HB := n1_; have HO292 := n2_; clear n0_ n1_ n2_; clear ho hb hg hat))
                                                      repeat (go_quiet (first | ((with_reducible refine gate_builtin (b := .append) (xs := #[.tmp 102, .tmp 104]) rfl ?_); at_builtin; refine Kd.R_append (Kd.int .i64) (w0 := w) w.heap.size rfl (.tmp 102) (.tmp 104) 102 3 (.int .i64 0) 8 rfl Try.underlying102 info3 rfl (by decide) (by omega) (.slice (some ad281) x7_2.length co39) x7_2 t283 [.int .i64 t283] (fun _ => True) (fun _ => False) rfl rfl ?aP (fun _ hk => hk.elim) ?aF ?aO ?aB ?aS ?aL ?_; (case aP => exact rfl); (case aB => exact (by repeat (first | (with_reducible first | exact HB.out | apply below_alloc | apply pw_below_drewN | apply below_drew1) | exact HB.out))); (case aF => exact (fun _ _ => trivial)); (case aO => exact (by (with_reducible repeat (first | apply Kd.R_alloc | apply Kd.R_drewN | apply Kd.R_drew)); exact HO_7.out)); (case aS => exact (below_size (by repeat (first | (with_reducible first | exact HB.out | apply below_alloc | apply pw_below_drewN | apply below_drew1) | exact HB.out)))); (case aL => have := LMc65.out; omega); intro v291 w66 ho hb hg hat; rw [← Ny290.out] at ho; have n0_ := Aside0.mk (Kd.S_after (ok := (fun _ => True)) (by (with_reducible repeat (first | apply Kd.S_alloc | apply Kd.S_drewN | apply Kd.S_drew)); exact Kd.S_mono HO_5.out (fun _ hk => ⟨trivial, hk⟩)) hg hat); have n1_ := Aside0.mk (hb); have n2_ := Aside0.mk (ho); clear HO_5; clear HB; clear HO_7; have HO_5 := n0_; have HB := n1_; have HO292 := n2_; clear n0_ n1_ n2_; clear ho hb hg hat)); try go_wp2_with (first | ((with_reducible refine gate_builtin (b := .append) (xs := #[.tmp 102, .tmp 104]) rfl ?_); at_builtin; refine Kd.R_append (Kd.int .i64) (w0 := w) w.heap.size rfl (.tmp 102) (.tmp 104) 102 3 (.int .i64 0) 8 rfl Try.underlying102 info3 rfl (by decide) (by omega) (.slice (some ad281) x7_2.length co39) x7_2 t283 [.int .i64 t283] (fun _ => True) (fun _ => False) rfl rfl ?aP (fun _ hk => hk.elim) ?aF ?aO ?aB ?aS ?aL ?_; (case aP => exact rfl); (case aB => exact (by repeat (first | (with_reducible first | exact HB.out | apply below_alloc | apply pw_below_drewN | apply below_drew1) | exact HB.out))); (case aF => exact (fun _ _ => trivial)); (case aO => exact (by (with_reducible repeat (first | apply Kd.R_alloc | apply Kd.R_drewN | apply Kd.R_drew)); exact HO_7.out)); (case aS => exact (below_size (by repeat (first | (with_reducible first | exact HB.out | apply below_alloc | apply pw_below_drewN | apply below_drew1) | exact HB.out)))); (case aL => have := LMc65.out; omega); intro v291 w66 ho hb hg hat; rw [← Ny290.out] at ho; have n0_ := Aside0.mk (Kd.S_after (ok := (fun _ => True)) (by (with_reducible repeat (first | apply Kd.S_alloc | apply Kd.S_drewN | apply Kd.S_drew)); exact Kd.S_mono HO_5.out (fun _ hk => ⟨trivial, hk⟩)) hg hat); have n1_ := Aside0.mk (hb); have n2_ := Aside0.mk (ho); clear HO_5; clear HB; clear HO_7; have HO_5 := n0_; have HB := n1_; have HO292 := n2_; clear n0_ n1_ n2_; clear ho hb hg hat)))
                                                      go_roundg kj37
                                                      case measure => have := HK1.out; have := HK2.out; have := HJ24.out; have := HJ37.out; omega
                                                      case rel => exact ⟨(y290), (wrap64 (x8_2 + 1)), (by first | rfl | (simp; done) | (simp [*]; done)), H', ⟨by have := HK1.out; have := HK2.out; have := HJ24.out; have := HJ37.out; omega⟩, ⟨by (with_reducible repeat (first | apply Kd.S_alloc | apply Kd.S_drewN | apply Kd.S_drew)); exact Kd.S_mono HO_5.out (fun _ hk => hk.2)⟩, ⟨by (with_reducible repeat (first | apply Kd.R_alloc | apply Kd.R_drewN | apply Kd.R_drew)); exact HO292.out⟩, ⟨by repeat (first | (with_reducible first | exact HB.out | apply below_alloc | apply pw_below_drewN | apply below_drew1) | exact HB.out)⟩⟩
                                                    · rw [if_neg c65] at H
                                                      exact absurd H (by simp)
                                            · rw [if_neg c35] at H
                                              exact absurd H (by simp)
                                          · rw [if_neg c34] at H
                                            exact absurd H (by simp)
                                        · rw [if_neg c32] at H
                                          exact absurd H (by simp)
                                      · rw [if_neg c31] at H
                                        exact absurd H (by simp)
                                    · rw [if_neg c30] at H
                                      exact absurd H (by simp)
                                  · rw [if_neg c29] at H
                                    exact absurd H (by simp)
                            · rw [if_neg c23] at H
                              exact absurd H (by simp)
                          · rw [if_neg c21] at H
                            exact absurd H (by simp)
                        · rw [if_neg c20] at H
                          exact absurd H (by simp)
                      · rw [if_neg c19] at H
                        exact absurd H (by simp)
                    · rw [if_neg c17] at H
                      exact absurd H (by simp)
                  · rw [if_neg c16] at H
                    exact absurd H (by simp)
            · rw [if_neg c8] at H
              have c8b0 : decide (x8_2 ≤ (a1.size : Int)) = false := decide_eq_false c8
              clear c8
              by_cases c67 : x5_1.length < 5864062014805
              · rw [if_pos c67] at H
                have LMc67 := Aside0.mk c67
                clear c67
                obtain ⟨y268, hy268⟩ : ∃ y_ : List (List Int), y_ = (x5_1 ++ [x7_2]) := ⟨_, rfl⟩
                replace H : (spec_l1Far.l0 k2 a0 a1 y268 (wrap64 (x6_1 + 1))) = some r := by first | (rw [hy268]; with_reducible exact H) | (have H2_ := (Option.bind_some _ _).symm.trans H; rw [hy268]; with_reducible exact H2_) | (have H2_ := (Option.bind_some _ _).symm.trans H; with_reducible exact H2_) | with_reducible exact H | (rw [hy268]; exact H) | exact H
                have Ny268 := Aside0.mk hy268
                clear hy268
                have H' := Aside0.mk H
                clear H
                obtain ⟨Ao69, co69, eo69⟩ := Kd.R_slice HO_7.out
                subst eo69
                go_wp2_with (first | ((with_reducible refine gate_builtin (b := .append) (xs := #[.tmp 120, .tmp 122]) rfl ?_); at_builtin; refine Kd.S_append (Kd.slice 3 (Kd.int .i64)) (w0 := w) w.heap.size rfl (.tmp 120) (.tmp 122) 101 102 (.slice none 0 0) 24 rfl Try.underlying101 info102 rfl (by decide) (by omega) u5 x5_1 x7_2 [.slice Ao69 x7_2.length co69] (fun _ => True) (fun k_ => some k_ = (.slice Ao69 x7_2.length co69 : Value).ownBlock) rfl rfl ?aP (fun k_ hk_ => ((Kd.R_mono (ok' := fun k_ => ((fun _ => True)) k_ ∧ some k_ ≠ (u5 : Value).ownBlock) (Kd.R_apart' (HO_7.out) (Kd.S_typed HO_5.out) (by decide)) (fun k_ hk => ⟨trivial, hk.2⟩))).1 k_ hk_.symm) ?aF ?aO ?aB ?aS ?aL ?_; (case aP => exact Kd.M_row (Kd.R_mono (Kd.R_tight rfl (Kd.R_mono (ok' := fun k_ => ((fun _ => True)) k_ ∧ some k_ ≠ (u5 : Value).ownBlock) (Kd.R_apart' (HO_7.out) (Kd.S_typed HO_5.out) (by decide)) (fun k_ hk => ⟨trivial, hk.2⟩))) (fun _ h_ => h_))); (case aB => exact (by repeat (first | (with_reducible first | exact HB.out | apply below_alloc | apply pw_below_drewN | apply below_drew1) | exact HB.out))); (case aF => exact (fun _ _ => trivial)); (case aO => exact (by (with_reducible repeat (first | apply Kd.S_alloc | apply Kd.S_drewN | apply Kd.S_drew)); exact Kd.S_mono HO_5.out (fun k_ hk => ⟨trivial, fun e_ => hk e_⟩))); (case aS => exact (below_size (by repeat (first | (with_reducible first | exact HB.out | apply below_alloc | apply pw_below_drewN | apply below_drew1) | exact HB.out)))); (case aL => have := LMc67.out; omega); intro v269 w68 ho hb hg hat; rw [← Ny268.out] at ho; have n0_ := Aside0.mk (hb); have n1_ := Aside0.mk (ho); clear HB; clear HO_5; clear HO_7; have HB := n0_; have HO270 := n1_; clear n0_ n1_; clear ho hb hg hat))
                repeat (go_quiet (first | ((with_reducible refine gate_builtin (b := .append) (xs := #[.tmp 120, .tmp 122]) rfl ?_); at_builtin; refine Kd.S_append (Kd.slice 3 (Kd.int .i64)) (w0 := w) w.heap.size rfl (.tmp 120) (.tmp 122) 101 102 (.slice none 0 0) 24 rfl Try.underlying101 info102 rfl (by decide) (by omega) u5 x5_1 x7_2 [.slice Ao69 x7_2.length co69] (fun _ => True) (fun k_ => some k_ = (.slice Ao69 x7_2.length co69 : Value).ownBlock) rfl rfl ?aP (fun k_ hk_ => ((Kd.R_mono (ok' := fun k_ => ((fun _ => True)) k_ ∧ some k_ ≠ (u5 : Value).ownBlock) (Kd.R_apart' (HO_7.out) (Kd.S_typed HO_5.out) (by decide)) (fun k_ hk => ⟨trivial, hk.2⟩))).1 k_ hk_.symm) ?aF ?aO ?aB ?aS ?aL ?_; (case aP => exact Kd.M_row (Kd.R_mono (Kd.R_tight rfl (Kd.R_mono (ok' := fun k_ => ((fun _ => True)) k_ ∧ some k_ ≠ (u5 : Value).ownBlock) (Kd.R_apart' (HO_7.out) (Kd.S_typed HO_5.out) (by decide)) (fun k_ hk => ⟨trivial, hk.2⟩))) (fun _ h_ => h_))); (case aB => exact (by repeat (first | (with_reducible first | exact HB.out | apply below_alloc | apply pw_below_drewN | apply below_drew1) | exact HB.out))); (case aF => exact (fun _ _ => trivial)); (case aO => exact (by (with_reducible repeat (first | apply Kd.S_alloc | apply Kd.S_drewN | apply Kd.S_drew)); exact Kd.S_mono HO_5.out (fun k_ hk => ⟨trivial, fun e_ => hk e_⟩))); (case aS => exact (below_size (by repeat (first | (with_reducible first | exact HB.out | apply below_alloc | apply pw_below_drewN | apply below_drew1) | exact HB.out)))); (case aL => have := LMc67.out; omega); intro v269 w68 ho hb hg hat; rw [← Ny268.out] at ho; have n0_ := Aside0.mk (hb); have n1_ := Aside0.mk (ho); clear HB; clear HO_5; clear HO_7; have HB := n0_; have HO270 := n1_; clear n0_ n1_; clear ho hb hg hat)); try go_wp2_with (first | ((with_reducible refine gate_builtin (b := .append) (xs := #[.tmp 120, .tmp 122]) rfl ?_); at_builtin; refine Kd.S_append (Kd.slice 3 (Kd.int .i64)) (w0 := w) w.heap.size rfl (.tmp 120) (.tmp 122) 101 102 (.slice none 0 0) 24 rfl Try.underlying101 info102 rfl (by decide) (by omega) u5 x5_1 x7_2 [.slice Ao69 x7_2.length co69] (fun _ => True) (fun k_ => some k_ = (.slice Ao69 x7_2.length co69 : Value).ownBlock) rfl rfl ?aP (fun k_ hk_ => ((Kd.R_mono (ok' := fun k_ => ((fun _ => True)) k_ ∧ some k_ ≠ (u5 : Value).ownBlock) (Kd.R_apart' (HO_7.out) (Kd.S_typed HO_5.out) (by decide)) (fun k_ hk => ⟨trivial, hk.2⟩))).1 k_ hk_.symm) ?aF ?aO ?aB ?aS ?aL ?_; (case aP => exact Kd.M_row (Kd.R_mono (Kd.R_tight rfl (Kd.R_mono (ok' := fun k_ => ((fun _ => True)) k_ ∧ some k_ ≠ (u5 : Value).ownBlock) (Kd.R_apart' (HO_7.out) (Kd.S_typed HO_5.out) (by decide)) (fun k_ hk => ⟨trivial, hk.2⟩))) (fun _ h_ => h_))); (case aB => exact (by repeat (first | (with_reducible first | exact HB.out | apply below_alloc | apply pw_below_drewN | apply below_drew1) | exact HB.out))); (case aF => exact (fun _ _ => trivial)); (case aO => exact (by (with_reducible repeat (first | apply Kd.S_alloc | apply Kd.S_drewN | apply Kd.S_drew)); exact Kd.S_mono HO_5.out (fun k_ hk => ⟨trivial, fun e_ => hk e_⟩))); (case aS => exact (below_size (by repeat (first | (with_reducible first | exact HB.out | apply below_alloc | apply pw_below_drewN | apply below_drew1) | exact HB.out)))); (case aL => have := LMc67.out; omega); intro v269 w68 ho hb hg hat; rw [← Ny268.out] at ho; have n0_ := Aside0.mk (hb); have n1_ := Aside0.mk (ho); clear HB; clear HO_5; clear HO_7; have HB := n0_; have HO270 := n1_; clear n0_ n1_; clear ho hb hg hat)))
                go_roundg k2
                case measure => have := HK1.out; have := HK2.out; omega
                case rel => exact ⟨(y268), (wrap64 (x6_1 + 1)), (by first | rfl | (simp; done) | (simp [*]; done)), H', ⟨by have := HK1.out; have := HK2.out; omega⟩, ⟨by (with_reducible repeat (first | apply Kd.S_alloc | apply Kd.S_drewN | apply Kd.S_drew)); exact HO270.out⟩, ⟨by repeat (first | (with_reducible first | exact HB.out | apply below_alloc | apply pw_below_drewN | apply below_drew1) | exact HB.out)⟩⟩
              · rw [if_neg c67] at H
                exact absurd H (by simp)
      · rw [if_neg c5] at H
        have c5b0 : decide (x6_1 ≤ (a0.size : Int)) = false := decide_eq_false c5
        clear c5
        by_cases c70 : 0 ≤ (a0.size : Int)
        · rw [if_pos c70] at H
          have c70b0 : decide (0 ≤ (a0.size : Int)) = true := decide_eq_true c70
          have c70b1 : decide (0 ≤ a0.size) = true := decide_eq_true (by omega)
          clear c70
          by_cases c71 : (a0.size : Int) < (x5_1.length : Int)
          · rw [if_pos c71] at H
            have c71b0 : decide ((a0.size : Int) < (x5_1.length : Int)) = true := decide_eq_true c71
            have c71b1 : decide (a0.size < x5_1.length) = true := decide_eq_true (Int.ofNat_lt.mp c71)
            clear c71
            by_cases c72 : 0 ≤ (a1.size : Int)
            · rw [if_pos c72] at H
              have c72b0 : decide (0 ≤ (a1.size : Int)) = true := decide_eq_true c72
              have c72b1 : decide (0 ≤ a1.size) = true := decide_eq_true (by omega)
              clear c72
              by_cases c73 : (a1.size : Int) < ((rd_L3 x5_1 (a0.size : Int)).length : Int)
              · rw [if_pos c73] at H
                have c73b0 : decide ((a1.size : Int) < ((rd_L3 x5_1 (a0.size : Int)).length : Int)) = true := decide_eq_true c73
                have c73b1 : decide (a1.size < (rd_L3 x5_1 (a0.size : Int)).length) = true := decide_eq_true (Int.ofNat_lt.mp c73)
                clear c73
                obtain rfl := Option.some.inj H
                obtain ⟨Ao74, co74, eo74⟩ := Kd.S_slice HO_5.out
                subst eo74
                have p263 : 0 ≤ ((a0.size : Int) : Int) := of_decide_eq_true (by first | (with_reducible assumption) | assumption)
                have q263 : (a0.size : Int) < (x5_1.length : Int) := of_decide_eq_true (by first | (with_reducible assumption) | assumption)
                obtain ⟨ad263, A263_0, c263_0, e263, hx263_0, hl263_0, hi263_0⟩ := at_L3 (Kd.S_reads' HO_5.out).2.2 (a0.size : Int) p263 q263
                cases e263
                obtain ⟨ce263, hce263, hMe263, hcc263⟩ := Kd.S_get HO_5.out [] (a0.size : Int) p263 (by first | exact q263 | exact of_decide_eq_true (by first | (with_reducible assumption) | assumption) | (have e_ := (Kd.S_reads' HO_5.out).1; omega))
                obtain ⟨ve263_0, rfl, ge263_0⟩ := hMe263
                have hv263_0 := hcc263 0 _ rfl
                rw [Nat.add_zero, show ((Kd.slice 3 (Kd.int .i64))).sz = 1 from rfl, Nat.mul_one] at hv263_0
                replace hv263_0 := Option.some.inj (hv263_0.symm.trans hx263_0)
                rw [hv263_0] at ge263_0
                have HL263_0 := Aside0.mk (show Kd.R (Kd.int .i64) 3 _ _ _ _ (rd_L3 x5_1 (a0.size : Int)) from ge263_0)
                clear hv263_0 ge263_0
                clear hcc263 hce263
                have HR263_0 := Aside0.mk hi263_0
                have HC263_0 := Aside0.mk hl263_0
                clear hi263_0 hl263_0
                replace p263 := eq_true p263
                replace q263 := eq_true q263
                (try have qn263 : (a0.size < x5_1.length) = True := eq_true (by have h_ := of_eq_true q263; omega))
                (try simp only [Int.toNat_natCast] at hx263_0)
                have p264 : 0 ≤ ((a1.size : Int) : Int) := of_decide_eq_true (by first | (with_reducible assumption) | assumption)
                have q264 : (a1.size : Int) < ((rd_L3 x5_1 (a0.size : Int)).length : Int) := of_decide_eq_true (by first | (with_reducible assumption) | assumption)
                obtain ⟨ad264, e264, hx264_0⟩ := Kd.at_int (by repeat (first | (with_reducible exact HR263_0.out) | (with_reducible refine Kd.C_alloc ?_ _) | (with_reducible refine Kd.C_drewN ?_ _) | (with_reducible refine Kd.C_drew ?_) | exact HR263_0.out)) (a1.size : Int) p264 q264
                cases e264
                replace p264 := eq_true p264
                replace q264 := eq_true q264
                (try have qn264 : (a1.size < (rd_L3 x5_1 (a0.size : Int)).length) = True := eq_true (by have h_ := of_eq_true q264; omega))
                (try simp only [Int.toNat_natCast] at hx264_0)
                go_wp2
                repeat (go_quiet (fail); try go_wp2)
                go_ret
                exact ⟨by first | rfl | (simp [errW_none, errW_some] <;> rfl) | (simp [*, errW_none, errW_some] <;> rfl), by repeat (first | (with_reducible first | exact HB.out | apply below_alloc | apply pw_below_drewN | apply below_drew1) | exact HB.out)⟩
              · rw [if_neg c73] at H
                exact absurd H (by simp)
            · rw [if_neg c72] at H
              exact absurd H (by simp)
          · rw [if_neg c71] at H
            exact absurd H (by simp)
        · rw [if_neg c70] at H
          exact absurd H (by simp)

end Go.Proofs.Ytedfcehhgbeibaa.QFnNearBoth
