import Derived.Test.YtedfcehhgbeibaaQFnExactBookStemsx0
import Derived.Test.YtedfcehhgbeibaaQFnExactBookStemsx3
import Derived.Test.YtedfcehhgbeibaaVMSho
namespace Go.Proofs.Ytedfcehhgbeibaa.QFnExactBookStems
open Go.RowKit Go.Proofs.YtedfcehhgbeibaaW.PrintWords Go.Proofs.YtedfcehhgbeibaaW.PrintLast Go.Proofs.YtedfcehhgbeibaaW.PrintMore Go.Proofs.Ytedfcehhgbeibaa.Sh
attribute [local go_sem] max2_int min2_int max_two min_two max_three min_three max_four min_four   -- for this text's walks alone
set_option linter.unusedVariables false
set_option linter.unusedSimpArgs false
-- shrunk

/-! ### laws_eqAffixS: function 22 -/
def laws_eqAffixS.l0 : Nat → List (S44) → List (S44) → Int → Option (Bool)
 | 0, _, _, _ => none
 | k + 1, x0, x1, x5 => if x5 < (x0.length : Int) then (if 0 ≤ x5 then (if x5 < (x1.length : Int) then ((laws_eqAffix.f ((rd_T44 x0 x5).f0) ((rd_T44 x0 x5).f1) ((rd_T44 x0 x5).f2) ((rd_T44 x0 x5).f3) ((rd_T44 x0 x5).f4) ((rd_T44 x1 x5).f0) ((rd_T44 x1 x5).f1) ((rd_T44 x1 x5).f2) ((rd_T44 x1 x5).f3) ((rd_T44 x1 x5).f4)).bind fun t155 => (if t155 = true then (laws_eqAffixS.l0 k x0 x1 (wrap64 (x5 + 1))) else (some false))) else (none)) else (none)) else (some true)
def laws_eqAffixS.f (k : Nat) (l0 : List (S44)) (l1 : List (S44)) : Option (Bool) := if (l0.length : Int) = (l1.length : Int) then (laws_eqAffixS.l0 k l0 l1 0) else (some false)
theorem laws_eqAffixS.mono_l : ∀ k, (∀ y0 y1 y2, LeO (laws_eqAffixS.l0 k y0 y1 y2) (laws_eqAffixS.l0 (k + 1) y0 y1 y2))
 | 0 => fun _ _ _ r h => by simp [laws_eqAffixS.l0] at h
 | k + 1 => by
  have ih0 := laws_eqAffixS.mono_l k
  ·intro y0 y1 y2
   unfold laws_eqAffixS.l0
   repeat' first | (with_reducible first | exact ih0 _ _ _ | exact LeO.refl _ | exact LeO.none _ | refine LeO.ite ?_ ?_ | refine LeO.bind ?_ (fun _ => ?_)) | exact ih0 _ _ _ | exact LeO.none _ | refine LeO.ite ?_ ?_ | refine LeO.bind ?_ (fun _ => ?_)
theorem laws_eqAffixS.mono : ∀ a0 a1 k, LeO (laws_eqAffixS.f k a0 a1) (laws_eqAffixS.f (k + 1) a0 a1) := by
 intro a0 a1 k; have ih0 := laws_eqAffixS.mono_l k
 unfold laws_eqAffixS.f
 repeat' first | (with_reducible first | exact ih0 _ _ _ | exact LeO.refl _ | exact LeO.none _ | refine LeO.ite ?_ ?_ | refine LeO.bind ?_ (fun _ => ?_)) | exact ih0 _ _ _ | exact LeO.none _ | refine LeO.ite ?_ ?_ | refine LeO.bind ?_ (fun _ => ?_)
def laws_eqAffixS.T6 : Bool × List (List Nat × List Nat) := (true, [([], []), ([], []), ([0, 1], [0, 1]), ([2], [2]), ([], []), ([], []), ([4, 5], [4, 5]), ([6], [6]), ([3, 7], [3, 7]), ([8], [8])])
def laws_eqAffixS.B6 : List Nat := [0, 0, 3, 7, 0, 0, 48, 112, 255, 511]
theorem laws_eqAffixS.tab6 : rtab .any (opsOf Try.f22 6) = laws_eqAffixS.T6 := by kernel_rfl
theorem laws_eqAffixS.bits6 : waitsOk laws_eqAffixS.T6.2 laws_eqAffixS.B6 = true := by kernel_rfl
set_option maxHeartbeats 8000000 in
set_option maxRecDepth 100000 in
theorem laws_eqAffixS.calls (k : Nat) (A0 : Option Addr) (c0 : Nat) (l0 : List (S44)) (A1 : Option Addr) (c1 : Nat) (l1 : List (S44)) (r : Bool) (w : World) (hr0 : Kd.C k44 w A0 l0.length l0) (hc0 : l0.length ≤ c0) (hr1 : Kd.C k44 w A1 l1.length l1) (hc1 : l1.length ≤ c1) (h : laws_eqAffixS.f k l0 l1 = some r) :
  Calls Try.prog 22 #[.slice A0 l0.length c0, .slice A1 l1.length c1] w fun e w' => e = .returned (.bool r) ∧ Below w.heap.size w w' := by
 have hu44 := Try.underlying44; have HR0 := am hr0; have HC0 := am hc0; clear hr0 hc0; have HR1 := am hr1; have HC1 := am hc1; clear hr1 hc1; have HB := am (Below.refl w.heap.size w)
 have H : (if (l0.length : Int) = (l1.length : Int) then (laws_eqAffixS.l0 k l0 l1 0) else (some false)) = some r := h
 clear h
 by_cases c3 : (l0.length : Int) = (l1.length : Int)
 ·rw [if_pos c3] at H
  have c3b0 : ((l0.length : Int) == (l1.length : Int)) = true := beq_iff_eq.mpr c3
  have c3b1 : ((l0.length : Int) != (l1.length : Int)) = false := bne_eq_false_iff_eq.mpr c3
  have c3b2 : (l0.length == l1.length) = true := by first | simpa using c3 | (simp at c3 ⊢; omega)
  clear c3
  have H' := am H
  clear H; go_enter Try.func22, Try.ntmps22; go_wp2
  go_loopg [5] k (fun kq v5 w' => ∃ (x5_1 : Int), v5 = .int .i64 x5_1 ∧ Aside0 (laws_eqAffixS.l0 kq l0 l1 x5_1 = some r) ∧ Aside0 (kq ≤ k) ∧ Aside0 (Below w.heap.size w w'))
  case atStart => exact ⟨(0), sq, H', ⟨Nat.le_refl _⟩, ⟨bel⟩⟩
  case round =>
   clear H'; (try clear c1); (try clear c2); (try clear p2); (try clear c3); (try clear c3b0); (try clear c3b1); (try clear c3b2); obtain ⟨x5_1, rfl, HA, HK1, HB⟩ := hrel
   cases gk with
   | zero => exact absurd HA.out (by simp [laws_eqAffixS.l0])
   | succ k1 =>
    have H := HA.out; clear HA
    simp only [laws_eqAffixS.l0] at H
    by_cases c4 : x5_1 < (l0.length : Int)
    ·rw [if_pos c4] at H; have c4b0 := decide_eq_true c4; clear c4
     by_cases c5 : 0 ≤ x5_1
     ·rw [if_pos c5] at H; have c5b0 := decide_eq_true c5; clear c5
      by_cases c6 : x5_1 < (l1.length : Int)
      ·rw [if_pos c6] at H; have c6b0 := decide_eq_true c6; clear c6; replace H := Option.bind_eq_some_iff.mp H; obtain ⟨t155, A70, H⟩ := H; replace H : (if t155 = true then (laws_eqAffixS.l0 k1 l0 l1 (wrap64 (x5_1 + 1))) else (some false)) = some r := H; have A7 := Aside0.mk A70; clear A70
       by_cases c8 : t155 = true
       ·subst c8
        have H1 : (laws_eqAffixS.l0 k1 l0 l1 (wrap64 (x5_1 + 1))) = some r := by rw [if_pos rfl] at H; exact H
        clear H; have H := H1; clear H1
        have H' := am H
        clear H
        try go_wp2
        replace HB := am (below_drew1 HB.out)
        have p153 : 0 ≤ (x5_1 : Int) := of_decide_eq_true ad
        have q153 : x5_1 < (l0.length : Int) := of_decide_eq_true ad
        obtain ⟨ad153, e153, hx153_0, hx153_1, hx153_2, hx153_3, hx153_4⟩ := at_T44 HR0.out x5_1 p153 q153; have hw153_4 := hx153_4; have hw153_3 := hx153_3; have hw153_2 := hx153_2; have hw153_1 := hx153_1; have hw153_0 := hx153_0
        cases e153
        replace hx153_0 := kp HB.out hx153_0; replace hx153_1 := kp HB.out hx153_1; replace hx153_2 := kp HB.out hx153_2; replace hx153_3 := kp HB.out hx153_3; replace hx153_4 := kp HB.out hx153_4; replace p153 := eq_true p153; replace q153 := eq_true q153
        have p154 : 0 ≤ (x5_1 : Int) := of_decide_eq_true ad
        have q154 : x5_1 < (l1.length : Int) := of_decide_eq_true ad
        obtain ⟨ad154, e154, hx154_0, hx154_1, hx154_2, hx154_3, hx154_4⟩ := at_T44 HR1.out x5_1 p154 q154; have hw154_4 := hx154_4; have hw154_3 := hx154_3; have hw154_2 := hx154_2; have hw154_1 := hx154_1; have hw154_0 := hx154_0
        cases e154
        replace hx154_0 := kp HB.out hx154_0; replace hx154_1 := kp HB.out hx154_1; replace hx154_2 := kp HB.out hx154_2; replace hx154_3 := kp HB.out hx154_3; replace hx154_4 := kp HB.out hx154_4; replace p154 := eq_true p154; replace q154 := eq_true q154
        refine start_ (n := 10) (S := fun w' => w'.cell? (ad153.add ((x5_1).toNat * 5)) = some (.string ((rd_T44 l0 x5_1).f0)) ∧ w'.cell? ⟨(ad153.add ((x5_1).toNat * 5)).block, (ad153.add ((x5_1).toNat * 5)).off + 1, none⟩ = some (.bool ((rd_T44 l0 x5_1).f1)) ∧ w'.cell? ⟨(ad153.add ((x5_1).toNat * 5)).block, (ad153.add ((x5_1).toNat * 5)).off + 2, none⟩ = some (.string ((rd_T44 l0 x5_1).f2)) ∧ w'.cell? ⟨(ad153.add ((x5_1).toNat * 5)).block, (ad153.add ((x5_1).toNat * 5)).off + 3, none⟩ = some (.string ((rd_T44 l0 x5_1).f3)) ∧ w'.cell? ⟨(ad153.add ((x5_1).toNat * 5)).block, (ad153.add ((x5_1).toNat * 5)).off + 4, none⟩ = some (.string ((rd_T44 l0 x5_1).f4)) ∧ w'.cell? (ad154.add ((x5_1).toNat * 5)) = some (.string ((rd_T44 l1 x5_1).f0)) ∧ w'.cell? ⟨(ad154.add ((x5_1).toNat * 5)).block, (ad154.add ((x5_1).toNat * 5)).off + 1, none⟩ = some (.bool ((rd_T44 l1 x5_1).f1)) ∧ w'.cell? ⟨(ad154.add ((x5_1).toNat * 5)).block, (ad154.add ((x5_1).toNat * 5)).off + 2, none⟩ = some (.string ((rd_T44 l1 x5_1).f2)) ∧ w'.cell? ⟨(ad154.add ((x5_1).toNat * 5)).block, (ad154.add ((x5_1).toNat * 5)).off + 3, none⟩ = some (.string ((rd_T44 l1 x5_1).f3)) ∧ w'.cell? ⟨(ad154.add ((x5_1).toNat * 5)).block, (ad154.add ((x5_1).toNat * 5)).off + 4, none⟩ = some (.string ((rd_T44 l1 x5_1).f4))) (ds := []) #[false, false, false, false, false, false, false, false, false, false] (by kernel_rfl) rfl rfl ⟨((HB.out.cell (World.block_lt_of_cell? w _ hw153_0)).trans hw153_0), ((HB.out.cell (World.block_lt_of_cell? w _ hw153_1)).trans hw153_1), ((HB.out.cell (World.block_lt_of_cell? w _ hw153_2)).trans hw153_2), ((HB.out.cell (World.block_lt_of_cell? w _ hw153_3)).trans hw153_3), ((HB.out.cell (World.block_lt_of_cell? w _ hw153_4)).trans hw153_4), ((HB.out.cell (World.block_lt_of_cell? w _ hw154_0)).trans hw154_0), ((HB.out.cell (World.block_lt_of_cell? w _ hw154_1)).trans hw154_1), ((HB.out.cell (World.block_lt_of_cell? w _ hw154_2)).trans hw154_2), ((HB.out.cell (World.block_lt_of_cell? w _ hw154_3)).trans hw154_3), ((HB.out.cell (World.block_lt_of_cell? w _ hw154_4)).trans hw154_4)⟩ (fun hHeld => ?_); refine with_tabW laws_eqAffixS.tab6 laws_eqAffixS.bits6 (fun HT_ HW_ => ?_)
        generalize wr.drew = w9 at HB hx153_0 hx153_1 hx153_2 hx153_3 hx153_4 hx154_0 hx154_1 hx154_2 hx154_3 hx154_4 hHeld ⊢
        refine pu 0 17 ?_
        refine pu 1 18 ?_
        refine pu 2 19 ?_
        refine pu 4 21 ?_
        refine pu 5 22 ?_
        refine pu 6 23 ?_
        refine take_ (i := 3) (N := some 20) (v := ?_) (a' := ?_) #[true, true, true, true, true, true, true, false, false, false] rfl rfl (take_ofW HT_.out HW_.out (by kernel_rfl)) (fun _ _ _ h => h) (Or.inl ⟨by rfl, ?_⟩) hHeld ?_ ?_
        rotate_left
        ·rintro w' ⟨s0, s1, s2, s3, s4, s5, s6, s7, s8, s9⟩
         go_simp
         with_reducible rfl
        rotate_left
        ·simp only [Act.put, List.setIfInBounds_toArray, List.set_cons_zero, List.set_cons_succ, i64_w, i32_w]
         rfl
        refine take_ (i := 7) (N := some 24) (v := ?_) (a' := ?_) #[true, true, true, true, true, true, true, true, false, false] rfl rfl (take_ofW HT_.out HW_.out (by kernel_rfl)) (fun _ _ _ h => h) (Or.inl ⟨by rfl, ?_⟩) hHeld ?_ ?_
        rotate_left
        ·rintro w' ⟨s0, s1, s2, s3, s4, s5, s6, s7, s8, s9⟩
         go_simp
         with_reducible rfl
        rotate_left
        ·simp only [Act.put, List.setIfInBounds_toArray, List.set_cons_zero, List.set_cons_succ, i64_w, i32_w]
         rfl
        refine on1 8 25 (fun K hK => ?_)
        refine goes_ Try.func61 (by kernel_rfl) rfl #[.agg #[.string ((rd_T44 l0 x5_1).f0), .bool ((rd_T44 l0 x5_1).f1), .string ((rd_T44 l0 x5_1).f2), .string ((rd_T44 l0 x5_1).f3), .string ((rd_T44 l0 x5_1).f4)], .agg #[.string ((rd_T44 l1 x5_1).f0), .bool ((rd_T44 l1 x5_1).f1), .string ((rd_T44 l1 x5_1).f2), .string ((rd_T44 l1 x5_1).f3), .string ((rd_T44 l1 x5_1).f4)]] (by rfl) rfl rfl mq ?_
        with_reducible refine (laws_eqAffix.calls ((rd_T44 l0 x5_1).f0) ((rd_T44 l0 x5_1).f1) ((rd_T44 l0 x5_1).f2) ((rd_T44 l0 x5_1).f3) ((rd_T44 l0 x5_1).f4) ((rd_T44 l1 x5_1).f0) ((rd_T44 l1 x5_1).f1) ((rd_T44 l1 x5_1).f2) ((rd_T44 l1 x5_1).f3) ((rd_T44 l1 x5_1).f4) true _ A7.out).mono ?_
        rintro e w10 ⟨rfl, hb⟩
        refine ⟨_, rfl, ?_⟩
        replace HB := am (below_step bel hb)
        (try clear hb)
        (try clear hb2)
        (try clear hk)
        (try clear hi)
        refine hK.out _ _ ⟨((HB.out.cell (World.block_lt_of_cell? w _ hw153_0)).trans hw153_0), ((HB.out.cell (World.block_lt_of_cell? w _ hw153_1)).trans hw153_1), ((HB.out.cell (World.block_lt_of_cell? w _ hw153_2)).trans hw153_2), ((HB.out.cell (World.block_lt_of_cell? w _ hw153_3)).trans hw153_3), ((HB.out.cell (World.block_lt_of_cell? w _ hw153_4)).trans hw153_4), ((HB.out.cell (World.block_lt_of_cell? w _ hw154_0)).trans hw154_0), ((HB.out.cell (World.block_lt_of_cell? w _ hw154_1)).trans hw154_1), ((HB.out.cell (World.block_lt_of_cell? w _ hw154_2)).trans hw154_2), ((HB.out.cell (World.block_lt_of_cell? w _ hw154_3)).trans hw154_3), ((HB.out.cell (World.block_lt_of_cell? w _ hw154_4)).trans hw154_4)⟩ (fun hHeld => ?_)
        clear hK K
        refine norm_ (a' := ?_) ?_ ?_
        rotate_left
        ·show Act.put _ (some 25) _ = _
         simp only [Act.put, List.setIfInBounds_toArray, List.set_cons_zero, List.set_cons_succ, i64_w, i32_w]
         rfl
        refine pu 9 26 ?_
        refine done_ (done_of HT_.out (by kernel_rfl)) ?_
        try go_wp2
        go_roundg k1
        case measure => have := HK1.out; omega
        case rel => exact ⟨(wrap64 (x5_1 + 1)), sq, H', ⟨by have := HK1.out; omega⟩, ⟨bel⟩⟩
       ·replace c8 := Bool.eq_false_iff.mpr c8; subst c8
        have H1 : (some false) = some r := by rw [if_neg (show ¬ (false = true) by decide)] at H; exact H
        clear H; have H := H1; clear H1; obtain rfl := Option.some.inj H
        try go_wp2
        replace HB := am (below_drew1 HB.out)
        have p153 : 0 ≤ (x5_1 : Int) := of_decide_eq_true ad
        have q153 : x5_1 < (l0.length : Int) := of_decide_eq_true ad
        obtain ⟨ad153, e153, hx153_0, hx153_1, hx153_2, hx153_3, hx153_4⟩ := at_T44 HR0.out x5_1 p153 q153; have hw153_4 := hx153_4; have hw153_3 := hx153_3; have hw153_2 := hx153_2; have hw153_1 := hx153_1; have hw153_0 := hx153_0
        cases e153
        replace hx153_0 := kp HB.out hx153_0; replace hx153_1 := kp HB.out hx153_1; replace hx153_2 := kp HB.out hx153_2; replace hx153_3 := kp HB.out hx153_3; replace hx153_4 := kp HB.out hx153_4; replace p153 := eq_true p153; replace q153 := eq_true q153
        have p154 : 0 ≤ (x5_1 : Int) := of_decide_eq_true ad
        have q154 : x5_1 < (l1.length : Int) := of_decide_eq_true ad
        obtain ⟨ad154, e154, hx154_0, hx154_1, hx154_2, hx154_3, hx154_4⟩ := at_T44 HR1.out x5_1 p154 q154; have hw154_4 := hx154_4; have hw154_3 := hx154_3; have hw154_2 := hx154_2; have hw154_1 := hx154_1; have hw154_0 := hx154_0
        cases e154
        replace hx154_0 := kp HB.out hx154_0; replace hx154_1 := kp HB.out hx154_1; replace hx154_2 := kp HB.out hx154_2; replace hx154_3 := kp HB.out hx154_3; replace hx154_4 := kp HB.out hx154_4; replace p154 := eq_true p154; replace q154 := eq_true q154
        refine start_ (n := 10) (S := fun w' => w'.cell? (ad153.add ((x5_1).toNat * 5)) = some (.string ((rd_T44 l0 x5_1).f0)) ∧ w'.cell? ⟨(ad153.add ((x5_1).toNat * 5)).block, (ad153.add ((x5_1).toNat * 5)).off + 1, none⟩ = some (.bool ((rd_T44 l0 x5_1).f1)) ∧ w'.cell? ⟨(ad153.add ((x5_1).toNat * 5)).block, (ad153.add ((x5_1).toNat * 5)).off + 2, none⟩ = some (.string ((rd_T44 l0 x5_1).f2)) ∧ w'.cell? ⟨(ad153.add ((x5_1).toNat * 5)).block, (ad153.add ((x5_1).toNat * 5)).off + 3, none⟩ = some (.string ((rd_T44 l0 x5_1).f3)) ∧ w'.cell? ⟨(ad153.add ((x5_1).toNat * 5)).block, (ad153.add ((x5_1).toNat * 5)).off + 4, none⟩ = some (.string ((rd_T44 l0 x5_1).f4)) ∧ w'.cell? (ad154.add ((x5_1).toNat * 5)) = some (.string ((rd_T44 l1 x5_1).f0)) ∧ w'.cell? ⟨(ad154.add ((x5_1).toNat * 5)).block, (ad154.add ((x5_1).toNat * 5)).off + 1, none⟩ = some (.bool ((rd_T44 l1 x5_1).f1)) ∧ w'.cell? ⟨(ad154.add ((x5_1).toNat * 5)).block, (ad154.add ((x5_1).toNat * 5)).off + 2, none⟩ = some (.string ((rd_T44 l1 x5_1).f2)) ∧ w'.cell? ⟨(ad154.add ((x5_1).toNat * 5)).block, (ad154.add ((x5_1).toNat * 5)).off + 3, none⟩ = some (.string ((rd_T44 l1 x5_1).f3)) ∧ w'.cell? ⟨(ad154.add ((x5_1).toNat * 5)).block, (ad154.add ((x5_1).toNat * 5)).off + 4, none⟩ = some (.string ((rd_T44 l1 x5_1).f4))) (ds := []) #[false, false, false, false, false, false, false, false, false, false] (by kernel_rfl) rfl rfl ⟨((HB.out.cell (World.block_lt_of_cell? w _ hw153_0)).trans hw153_0), ((HB.out.cell (World.block_lt_of_cell? w _ hw153_1)).trans hw153_1), ((HB.out.cell (World.block_lt_of_cell? w _ hw153_2)).trans hw153_2), ((HB.out.cell (World.block_lt_of_cell? w _ hw153_3)).trans hw153_3), ((HB.out.cell (World.block_lt_of_cell? w _ hw153_4)).trans hw153_4), ((HB.out.cell (World.block_lt_of_cell? w _ hw154_0)).trans hw154_0), ((HB.out.cell (World.block_lt_of_cell? w _ hw154_1)).trans hw154_1), ((HB.out.cell (World.block_lt_of_cell? w _ hw154_2)).trans hw154_2), ((HB.out.cell (World.block_lt_of_cell? w _ hw154_3)).trans hw154_3), ((HB.out.cell (World.block_lt_of_cell? w _ hw154_4)).trans hw154_4)⟩ (fun hHeld => ?_); refine with_tabW laws_eqAffixS.tab6 laws_eqAffixS.bits6 (fun HT_ HW_ => ?_)
        generalize wr.drew = w11 at HB hx153_0 hx153_1 hx153_2 hx153_3 hx153_4 hx154_0 hx154_1 hx154_2 hx154_3 hx154_4 hHeld ⊢
        refine pu 0 17 ?_
        refine pu 1 18 ?_
        refine pu 2 19 ?_
        refine pu 4 21 ?_
        refine pu 5 22 ?_
        refine pu 6 23 ?_
        refine take_ (i := 3) (N := some 20) (v := ?_) (a' := ?_) #[true, true, true, true, true, true, true, false, false, false] rfl rfl (take_ofW HT_.out HW_.out (by kernel_rfl)) (fun _ _ _ h => h) (Or.inl ⟨by rfl, ?_⟩) hHeld ?_ ?_
        rotate_left
        ·rintro w' ⟨s0, s1, s2, s3, s4, s5, s6, s7, s8, s9⟩
         go_simp
         with_reducible rfl
        rotate_left
        ·simp only [Act.put, List.setIfInBounds_toArray, List.set_cons_zero, List.set_cons_succ, i64_w, i32_w]
         rfl
        refine take_ (i := 7) (N := some 24) (v := ?_) (a' := ?_) #[true, true, true, true, true, true, true, true, false, false] rfl rfl (take_ofW HT_.out HW_.out (by kernel_rfl)) (fun _ _ _ h => h) (Or.inl ⟨by rfl, ?_⟩) hHeld ?_ ?_
        rotate_left
        ·rintro w' ⟨s0, s1, s2, s3, s4, s5, s6, s7, s8, s9⟩
         go_simp
         with_reducible rfl
        rotate_left
        ·simp only [Act.put, List.setIfInBounds_toArray, List.set_cons_zero, List.set_cons_succ, i64_w, i32_w]
         rfl
        refine on1 8 25 (fun K hK => ?_)
        refine goes_ Try.func61 (by kernel_rfl) rfl #[.agg #[.string ((rd_T44 l0 x5_1).f0), .bool ((rd_T44 l0 x5_1).f1), .string ((rd_T44 l0 x5_1).f2), .string ((rd_T44 l0 x5_1).f3), .string ((rd_T44 l0 x5_1).f4)], .agg #[.string ((rd_T44 l1 x5_1).f0), .bool ((rd_T44 l1 x5_1).f1), .string ((rd_T44 l1 x5_1).f2), .string ((rd_T44 l1 x5_1).f3), .string ((rd_T44 l1 x5_1).f4)]] (by rfl) rfl rfl mq ?_
        with_reducible refine (laws_eqAffix.calls ((rd_T44 l0 x5_1).f0) ((rd_T44 l0 x5_1).f1) ((rd_T44 l0 x5_1).f2) ((rd_T44 l0 x5_1).f3) ((rd_T44 l0 x5_1).f4) ((rd_T44 l1 x5_1).f0) ((rd_T44 l1 x5_1).f1) ((rd_T44 l1 x5_1).f2) ((rd_T44 l1 x5_1).f3) ((rd_T44 l1 x5_1).f4) false _ A7.out).mono ?_
        rintro e w12 ⟨rfl, hb⟩
        refine ⟨_, rfl, ?_⟩
        replace HB := am (below_step bel hb)
        (try clear hb)
        (try clear hb2)
        (try clear hk)
        (try clear hi)
        refine hK.out _ _ ⟨((HB.out.cell (World.block_lt_of_cell? w _ hw153_0)).trans hw153_0), ((HB.out.cell (World.block_lt_of_cell? w _ hw153_1)).trans hw153_1), ((HB.out.cell (World.block_lt_of_cell? w _ hw153_2)).trans hw153_2), ((HB.out.cell (World.block_lt_of_cell? w _ hw153_3)).trans hw153_3), ((HB.out.cell (World.block_lt_of_cell? w _ hw153_4)).trans hw153_4), ((HB.out.cell (World.block_lt_of_cell? w _ hw154_0)).trans hw154_0), ((HB.out.cell (World.block_lt_of_cell? w _ hw154_1)).trans hw154_1), ((HB.out.cell (World.block_lt_of_cell? w _ hw154_2)).trans hw154_2), ((HB.out.cell (World.block_lt_of_cell? w _ hw154_3)).trans hw154_3), ((HB.out.cell (World.block_lt_of_cell? w _ hw154_4)).trans hw154_4)⟩ (fun hHeld => ?_)
        clear hK K
        refine norm_ (a' := ?_) ?_ ?_
        rotate_left
        ·show Act.put _ (some 25) _ = _
         simp only [Act.put, List.setIfInBounds_toArray, List.set_cons_zero, List.set_cons_succ, i64_w, i32_w]
         rfl
        refine pu 9 26 ?_
        refine done_ (done_of HT_.out (by kernel_rfl)) ?_
        try go_wp2
        go_ret
        exact ⟨eq_, bel⟩
      ·rw [if_neg c6] at H
       exact absurd H (by simp)
     ·rw [if_neg c5] at H
      exact absurd H (by simp)
    ·rw [if_neg c4] at H; have c4b0 := decide_eq_false c4; clear c4; obtain rfl := Option.some.inj H; go_wp2; go_ret
     exact ⟨eq_, bel⟩
 ·rw [if_neg c3] at H
  have c3b0 : ((l0.length : Int) == (l1.length : Int)) = false := beq_eq_false_iff_ne.mpr c3
  have c3b1 : ((l0.length : Int) != (l1.length : Int)) = true := bne_iff_ne.mpr c3
  have c3b2 : (l0.length == l1.length) = false := by first | simpa using c3 | (simp at c3 ⊢; omega)
  obtain rfl := Option.some.inj H; go_enter Try.func22, Try.ntmps22; go_wp2; go_ret
  exact ⟨eq_, bel⟩

/-! ### laws_eqEntry: function 103 -/
def laws_eqEntry.f (a0_0 : ByteArray) (a0_1 : ByteArray) (a1_0 : ByteArray) (a1_1 : ByteArray) : Option (Bool) := if a0_0.toList = a1_0.toList then (if a0_1.toList = a1_1.toList then (some true) else (some false)) else (some false)
set_option maxHeartbeats 8000000 in
set_option maxRecDepth 100000 in
theorem laws_eqEntry.calls (a0_0 : ByteArray) (a0_1 : ByteArray) (a1_0 : ByteArray) (a1_1 : ByteArray) (r : Bool) (w : World) (h : laws_eqEntry.f a0_0 a0_1 a1_0 a1_1 = some r) :
  Calls Try.prog 103 #[.agg #[.string a0_0, .string a0_1], .agg #[.string a1_0, .string a1_1]] w fun e w' => e = .returned (.bool r) ∧ Below w.heap.size w w' := by
 have hu31 := Try.underlying31; have HB := am (Below.refl w.heap.size w)
 have H : (if a0_0.toList = a1_0.toList then (if a0_1.toList = a1_1.toList then (some true) else (some false)) else (some false)) = some r := h
 clear h
 by_cases c3 : a0_0.toList = a1_0.toList
 ·rw [if_pos c3] at H
  have c3b0 : (a0_0.toList == a1_0.toList) = true := beq_iff_eq.mpr c3
  have c3b1 : (a0_0.toList != a1_0.toList) = false := bne_eq_false_iff_eq.mpr c3
  clear c3
  by_cases c4 : a0_1.toList = a1_1.toList
  ·rw [if_pos c4] at H
   have c4b0 : (a0_1.toList == a1_1.toList) = true := beq_iff_eq.mpr c4
   have c4b1 : (a0_1.toList != a1_1.toList) = false := bne_eq_false_iff_eq.mpr c4
   clear c4; obtain rfl := Option.some.inj H; go_enter Try.func103, Try.ntmps103
   go_wp2_with (first | ((with_reducible refine gate_dst (N := 2) rfl ?_); refine bx 2 (cs := #[.string a0_0, .string a0_1]) (t := 31) ?_; intro gb156 hg w5 hbox hb; have BK156 := am (hbox); have GW156 := am ((by rw [hg]; exact (below_size bel) : w.heap.size ≤ gb156)); have GE156 := am ((by rw [hg]; exact (below_size bel) : w.heap.size ≤ gb156)); replace HB := am (below_step bel hb); clear hb hbox hg) | ((with_reducible refine gate_dst (N := 3) rfl ?_); refine bx 3 (cs := #[.string a1_0, .string a1_1]) (t := 31) ?_; intro gb157 hg w6 hbox hb; have BK157 := am (hbox); have GW157 := am ((by rw [hg]; exact (below_size (bel1 GE156.out)) : w.heap.size ≤ gb157)); have GE157 := am ((by rw [hg]; exact (below_size (bel1 GE156.out)) : w.heap.size ≤ gb157)); replace HB := am (below_step (bel1 GE156.out) hb); have NB156_157 := am ((by rw [hg]; exact Nat.ne_of_lt (blk_lt (g := gb156) (o := .cells #[.string a0_0, .string a0_1] 31 (0, 0)) (bq BK156.out)) : gb156 ≠ gb157)); have NB157_156 := am ((by rw [hg]; exact Nat.ne_of_gt (blk_lt (g := gb156) (o := .cells #[.string a0_0, .string a0_1] 31 (0, 0)) (bq BK156.out)) : gb157 ≠ gb156)); replace BK156 := am (blk_below (g := gb156) (o := .cells #[.string a0_0, .string a0_1] 31 (0, 0)) (bq BK156.out) hb); clear hb hbox hg; have hnb7 := NB156_157.out; have hnc7 := NB157_156.out; have hcz8_0 := bc BK156.out 0; have hcz8_1 := bc BK156.out 1; have hfz8_0 := blk_frozen BK156.out 0; have hfz8_1 := blk_frozen BK156.out 1; have hcz9_0 := bc BK157.out 0; have hcz9_1 := bc BK157.out 1; have hfz9_0 := blk_frozen BK157.out 0; have hfz9_1 := blk_frozen BK157.out 1))
   go_ret
   exact ⟨eq_, bel2 GE156.out GE157.out⟩
  ·rw [if_neg c4] at H
   have c4b0 : (a0_1.toList == a1_1.toList) = false := beq_eq_false_iff_ne.mpr c4
   have c4b1 : (a0_1.toList != a1_1.toList) = true := bne_iff_ne.mpr c4
   obtain rfl := Option.some.inj H; go_enter Try.func103, Try.ntmps103
   go_wp2_with (first | ((with_reducible refine gate_dst (N := 2) rfl ?_); refine bx 2 (cs := #[.string a0_0, .string a0_1]) (t := 31) ?_; intro gb156 hg w10 hbox hb; have BK156 := am (hbox); have GW156 := am ((by rw [hg]; exact (below_size bel) : w.heap.size ≤ gb156)); have GE156 := am ((by rw [hg]; exact (below_size bel) : w.heap.size ≤ gb156)); replace HB := am (below_step bel hb); clear hb hbox hg) | ((with_reducible refine gate_dst (N := 3) rfl ?_); refine bx 3 (cs := #[.string a1_0, .string a1_1]) (t := 31) ?_; intro gb157 hg w11 hbox hb; have BK157 := am (hbox); have GW157 := am ((by rw [hg]; exact (below_size (bel1 GE156.out)) : w.heap.size ≤ gb157)); have GE157 := am ((by rw [hg]; exact (below_size (bel1 GE156.out)) : w.heap.size ≤ gb157)); replace HB := am (below_step (bel1 GE156.out) hb); have NB156_157 := am ((by rw [hg]; exact Nat.ne_of_lt (blk_lt (g := gb156) (o := .cells #[.string a0_0, .string a0_1] 31 (0, 0)) (bq BK156.out)) : gb156 ≠ gb157)); have NB157_156 := am ((by rw [hg]; exact Nat.ne_of_gt (blk_lt (g := gb156) (o := .cells #[.string a0_0, .string a0_1] 31 (0, 0)) (bq BK156.out)) : gb157 ≠ gb156)); replace BK156 := am (blk_below (g := gb156) (o := .cells #[.string a0_0, .string a0_1] 31 (0, 0)) (bq BK156.out) hb); clear hb hbox hg; have hnb12 := NB156_157.out; have hnc12 := NB157_156.out; have hcz13_0 := bc BK156.out 0; have hcz13_1 := bc BK156.out 1; have hfz13_0 := blk_frozen BK156.out 0; have hfz13_1 := blk_frozen BK156.out 1; have hcz14_0 := bc BK157.out 0; have hcz14_1 := bc BK157.out 1; have hfz14_0 := blk_frozen BK157.out 0; have hfz14_1 := blk_frozen BK157.out 1))
   go_ret
   exact ⟨eq_, bel2 GE156.out GE157.out⟩
 ·rw [if_neg c3] at H
  have c3b0 : (a0_0.toList == a1_0.toList) = false := beq_eq_false_iff_ne.mpr c3
  have c3b1 : (a0_0.toList != a1_0.toList) = true := bne_iff_ne.mpr c3
  obtain rfl := Option.some.inj H; go_enter Try.func103, Try.ntmps103
  go_wp2_with (first | ((with_reducible refine gate_dst (N := 2) rfl ?_); refine bx 2 (cs := #[.string a0_0, .string a0_1]) (t := 31) ?_; intro gb156 hg w15 hbox hb; have BK156 := am (hbox); have GW156 := am ((by rw [hg]; exact (below_size bel) : w.heap.size ≤ gb156)); have GE156 := am ((by rw [hg]; exact (below_size bel) : w.heap.size ≤ gb156)); replace HB := am (below_step bel hb); clear hb hbox hg) | ((with_reducible refine gate_dst (N := 3) rfl ?_); refine bx 3 (cs := #[.string a1_0, .string a1_1]) (t := 31) ?_; intro gb157 hg w16 hbox hb; have BK157 := am (hbox); have GW157 := am ((by rw [hg]; exact (below_size (bel1 GE156.out)) : w.heap.size ≤ gb157)); have GE157 := am ((by rw [hg]; exact (below_size (bel1 GE156.out)) : w.heap.size ≤ gb157)); replace HB := am (below_step (bel1 GE156.out) hb); have NB156_157 := am ((by rw [hg]; exact Nat.ne_of_lt (blk_lt (g := gb156) (o := .cells #[.string a0_0, .string a0_1] 31 (0, 0)) (bq BK156.out)) : gb156 ≠ gb157)); have NB157_156 := am ((by rw [hg]; exact Nat.ne_of_gt (blk_lt (g := gb156) (o := .cells #[.string a0_0, .string a0_1] 31 (0, 0)) (bq BK156.out)) : gb157 ≠ gb156)); replace BK156 := am (blk_below (g := gb156) (o := .cells #[.string a0_0, .string a0_1] 31 (0, 0)) (bq BK156.out) hb); clear hb hbox hg; have hnb17 := NB156_157.out; have hnc17 := NB157_156.out; have hcz18_0 := bc BK156.out 0; have hcz18_1 := bc BK156.out 1; have hfz18_0 := blk_frozen BK156.out 0; have hfz18_1 := blk_frozen BK156.out 1; have hcz19_0 := bc BK157.out 0; have hcz19_1 := bc BK157.out 1; have hfz19_0 := blk_frozen BK157.out 0; have hfz19_1 := blk_frozen BK157.out 1))
  go_ret
  exact ⟨eq_, bel2 GE156.out GE157.out⟩

/-! ### laws_eqEntryS: function 78 -/
def laws_eqEntryS.l0 : Nat → List (S31) → List (S31) → Int → Option (Bool)
 | 0, _, _, _ => none
 | k + 1, x0, x1, x5 => if x5 < (x0.length : Int) then (if 0 ≤ x5 then (if x5 < (x1.length : Int) then ((laws_eqEntry.f ((rd_T31 x0 x5).f0) ((rd_T31 x0 x5).f1) ((rd_T31 x1 x5).f0) ((rd_T31 x1 x5).f1)).bind fun t160 => (if t160 = true then (laws_eqEntryS.l0 k x0 x1 (wrap64 (x5 + 1))) else (some false))) else (none)) else (none)) else (some true)
def laws_eqEntryS.f (k : Nat) (l0 : List (S31)) (l1 : List (S31)) : Option (Bool) := if (l0.length : Int) = (l1.length : Int) then (laws_eqEntryS.l0 k l0 l1 0) else (some false)
theorem laws_eqEntryS.mono_l : ∀ k, (∀ y0 y1 y2, LeO (laws_eqEntryS.l0 k y0 y1 y2) (laws_eqEntryS.l0 (k + 1) y0 y1 y2))
 | 0 => fun _ _ _ r h => by simp [laws_eqEntryS.l0] at h
 | k + 1 => by
  have ih0 := laws_eqEntryS.mono_l k
  ·intro y0 y1 y2
   unfold laws_eqEntryS.l0
   repeat' first | (with_reducible first | exact ih0 _ _ _ | exact LeO.refl _ | exact LeO.none _ | refine LeO.ite ?_ ?_ | refine LeO.bind ?_ (fun _ => ?_)) | exact ih0 _ _ _ | exact LeO.none _ | refine LeO.ite ?_ ?_ | refine LeO.bind ?_ (fun _ => ?_)
theorem laws_eqEntryS.mono : ∀ a0 a1 k, LeO (laws_eqEntryS.f k a0 a1) (laws_eqEntryS.f (k + 1) a0 a1) := by
 intro a0 a1 k; have ih0 := laws_eqEntryS.mono_l k
 unfold laws_eqEntryS.f
 repeat' first | (with_reducible first | exact ih0 _ _ _ | exact LeO.refl _ | exact LeO.none _ | refine LeO.ite ?_ ?_ | refine LeO.bind ?_ (fun _ => ?_)) | exact ih0 _ _ _ | exact LeO.none _ | refine LeO.ite ?_ ?_ | refine LeO.bind ?_ (fun _ => ?_)
def laws_eqEntryS.T6 : Bool × List (List Nat × List Nat) := (true, [([], []), ([], []), ([0, 1], [0, 1]), ([2], [2]), ([], []), ([], []), ([4, 5], [4, 5]), ([6], [6]), ([3, 7], [3, 7]), ([8], [8])])
def laws_eqEntryS.B6 : List Nat := [0, 0, 3, 7, 0, 0, 48, 112, 255, 511]
theorem laws_eqEntryS.tab6 : rtab .any (opsOf Try.f78 6) = laws_eqEntryS.T6 := by kernel_rfl
theorem laws_eqEntryS.bits6 : waitsOk laws_eqEntryS.T6.2 laws_eqEntryS.B6 = true := by kernel_rfl
set_option maxHeartbeats 8000000 in
set_option maxRecDepth 100000 in
theorem laws_eqEntryS.calls (k : Nat) (A0 : Option Addr) (c0 : Nat) (l0 : List (S31)) (A1 : Option Addr) (c1 : Nat) (l1 : List (S31)) (r : Bool) (w : World) (hr0 : Kd.C k31 w A0 l0.length l0) (hc0 : l0.length ≤ c0) (hr1 : Kd.C k31 w A1 l1.length l1) (hc1 : l1.length ≤ c1) (h : laws_eqEntryS.f k l0 l1 = some r) :
  Calls Try.prog 78 #[.slice A0 l0.length c0, .slice A1 l1.length c1] w fun e w' => e = .returned (.bool r) ∧ Below w.heap.size w w' := by
 have hu31 := Try.underlying31; have HR0 := am hr0; have HC0 := am hc0; clear hr0 hc0; have HR1 := am hr1; have HC1 := am hc1; clear hr1 hc1; have HB := am (Below.refl w.heap.size w)
 have H : (if (l0.length : Int) = (l1.length : Int) then (laws_eqEntryS.l0 k l0 l1 0) else (some false)) = some r := h
 clear h
 by_cases c3 : (l0.length : Int) = (l1.length : Int)
 ·rw [if_pos c3] at H
  have c3b0 : ((l0.length : Int) == (l1.length : Int)) = true := beq_iff_eq.mpr c3
  have c3b1 : ((l0.length : Int) != (l1.length : Int)) = false := bne_eq_false_iff_eq.mpr c3
  have c3b2 : (l0.length == l1.length) = true := by first | simpa using c3 | (simp at c3 ⊢; omega)
  clear c3
  have H' := am H
  clear H; go_enter Try.func78, Try.ntmps78; go_wp2
  go_loopg [5] k (fun kq v5 w' => ∃ (x5_1 : Int), v5 = .int .i64 x5_1 ∧ Aside0 (laws_eqEntryS.l0 kq l0 l1 x5_1 = some r) ∧ Aside0 (kq ≤ k) ∧ Aside0 (Below w.heap.size w w'))
  case atStart => exact ⟨(0), sq, H', ⟨Nat.le_refl _⟩, ⟨bel⟩⟩
  case round =>
   clear H'; (try clear c1); (try clear p2); (try clear c3); (try clear c3b0); (try clear c3b1); (try clear c3b2); obtain ⟨x5_1, rfl, HA, HK1, HB⟩ := hrel
   cases gk with
   | zero => exact absurd HA.out (by simp [laws_eqEntryS.l0])
   | succ k1 =>
    have H := HA.out; clear HA
    simp only [laws_eqEntryS.l0] at H
    by_cases c4 : x5_1 < (l0.length : Int)
    ·rw [if_pos c4] at H; have c4b0 := decide_eq_true c4; clear c4
     by_cases c5 : 0 ≤ x5_1
     ·rw [if_pos c5] at H; have c5b0 := decide_eq_true c5; clear c5
      by_cases c6 : x5_1 < (l1.length : Int)
      ·rw [if_pos c6] at H; have c6b0 := decide_eq_true c6; clear c6; replace H := Option.bind_eq_some_iff.mp H; obtain ⟨t160, A70, H⟩ := H; replace H : (if t160 = true then (laws_eqEntryS.l0 k1 l0 l1 (wrap64 (x5_1 + 1))) else (some false)) = some r := H; have A7 := Aside0.mk A70; clear A70
       by_cases c8 : t160 = true
       ·subst c8
        have H1 : (laws_eqEntryS.l0 k1 l0 l1 (wrap64 (x5_1 + 1))) = some r := by rw [if_pos rfl] at H; exact H
        clear H; have H := H1; clear H1
        have H' := am H
        clear H
        try go_wp2
        replace HB := am (below_drew1 HB.out)
        have p158 : 0 ≤ (x5_1 : Int) := of_decide_eq_true ad
        have q158 : x5_1 < (l0.length : Int) := of_decide_eq_true ad
        obtain ⟨ad158, e158, hx158_0, hx158_1⟩ := at_T31 HR0.out x5_1 p158 q158; have hw158_1 := hx158_1; have hw158_0 := hx158_0
        cases e158
        replace hx158_0 := kp HB.out hx158_0; replace hx158_1 := kp HB.out hx158_1; replace p158 := eq_true p158; replace q158 := eq_true q158
        have p159 : 0 ≤ (x5_1 : Int) := of_decide_eq_true ad
        have q159 : x5_1 < (l1.length : Int) := of_decide_eq_true ad
        obtain ⟨ad159, e159, hx159_0, hx159_1⟩ := at_T31 HR1.out x5_1 p159 q159; have hw159_1 := hx159_1; have hw159_0 := hx159_0
        cases e159
        replace hx159_0 := kp HB.out hx159_0; replace hx159_1 := kp HB.out hx159_1; replace p159 := eq_true p159; replace q159 := eq_true q159
        refine start_ (n := 10) (S := fun w' => w'.cell? (ad158.add ((x5_1).toNat * 2)) = some (.string ((rd_T31 l0 x5_1).f0)) ∧ w'.cell? ⟨(ad158.add ((x5_1).toNat * 2)).block, (ad158.add ((x5_1).toNat * 2)).off + 1, none⟩ = some (.string ((rd_T31 l0 x5_1).f1)) ∧ w'.cell? (ad159.add ((x5_1).toNat * 2)) = some (.string ((rd_T31 l1 x5_1).f0)) ∧ w'.cell? ⟨(ad159.add ((x5_1).toNat * 2)).block, (ad159.add ((x5_1).toNat * 2)).off + 1, none⟩ = some (.string ((rd_T31 l1 x5_1).f1))) (ds := []) #[false, false, false, false, false, false, false, false, false, false] (by kernel_rfl) rfl rfl ⟨((HB.out.cell (World.block_lt_of_cell? w _ hw158_0)).trans hw158_0), ((HB.out.cell (World.block_lt_of_cell? w _ hw158_1)).trans hw158_1), ((HB.out.cell (World.block_lt_of_cell? w _ hw159_0)).trans hw159_0), ((HB.out.cell (World.block_lt_of_cell? w _ hw159_1)).trans hw159_1)⟩ (fun hHeld => ?_); refine with_tabW laws_eqEntryS.tab6 laws_eqEntryS.bits6 (fun HT_ HW_ => ?_)
        generalize wr.drew = w9 at HB hx158_0 hx158_1 hx159_0 hx159_1 hHeld ⊢
        refine pu 0 17 ?_
        refine pu 1 18 ?_
        refine pu 2 19 ?_
        refine pu 4 21 ?_
        refine pu 5 22 ?_
        refine pu 6 23 ?_
        refine tk4 3 20 hHeld ?_
        refine tk4 7 24 hHeld ?_
        refine on1 8 25 (fun K hK => ?_)
        refine goes_ Try.func103 (by kernel_rfl) rfl #[.agg #[.string ((rd_T31 l0 x5_1).f0), .string ((rd_T31 l0 x5_1).f1)], .agg #[.string ((rd_T31 l1 x5_1).f0), .string ((rd_T31 l1 x5_1).f1)]] (by rfl) rfl rfl mq ?_
        with_reducible refine (laws_eqEntry.calls ((rd_T31 l0 x5_1).f0) ((rd_T31 l0 x5_1).f1) ((rd_T31 l1 x5_1).f0) ((rd_T31 l1 x5_1).f1) true _ A7.out).mono ?_
        rintro e w10 ⟨rfl, hb⟩
        refine ⟨_, rfl, ?_⟩
        replace HB := am (below_step bel hb)
        (try clear hb)
        (try clear hb2)
        (try clear hk)
        (try clear hi)
        refine hK.out _ _ ⟨((HB.out.cell (World.block_lt_of_cell? w _ hw158_0)).trans hw158_0), ((HB.out.cell (World.block_lt_of_cell? w _ hw158_1)).trans hw158_1), ((HB.out.cell (World.block_lt_of_cell? w _ hw159_0)).trans hw159_0), ((HB.out.cell (World.block_lt_of_cell? w _ hw159_1)).trans hw159_1)⟩ (fun hHeld => ?_)
        clear hK K
        refine norm_ (a' := ?_) ?_ ?_
        rotate_left
        ·show Act.put _ (some 25) _ = _
         simp only [Act.put, List.setIfInBounds_toArray, List.set_cons_zero, List.set_cons_succ, i64_w, i32_w]
         rfl
        refine pu 9 26 ?_
        refine done_ (done_of HT_.out (by kernel_rfl)) ?_
        try go_wp2
        go_roundg k1
        case measure => have := HK1.out; omega
        case rel => exact ⟨(wrap64 (x5_1 + 1)), sq, H', ⟨by have := HK1.out; omega⟩, ⟨bel⟩⟩
       ·replace c8 := Bool.eq_false_iff.mpr c8; subst c8
        have H1 : (some false) = some r := by rw [if_neg (show ¬ (false = true) by decide)] at H; exact H
        clear H; have H := H1; clear H1; obtain rfl := Option.some.inj H
        try go_wp2
        replace HB := am (below_drew1 HB.out)
        have p158 : 0 ≤ (x5_1 : Int) := of_decide_eq_true ad
        have q158 : x5_1 < (l0.length : Int) := of_decide_eq_true ad
        obtain ⟨ad158, e158, hx158_0, hx158_1⟩ := at_T31 HR0.out x5_1 p158 q158; have hw158_1 := hx158_1; have hw158_0 := hx158_0
        cases e158
        replace hx158_0 := kp HB.out hx158_0; replace hx158_1 := kp HB.out hx158_1; replace p158 := eq_true p158; replace q158 := eq_true q158
        have p159 : 0 ≤ (x5_1 : Int) := of_decide_eq_true ad
        have q159 : x5_1 < (l1.length : Int) := of_decide_eq_true ad
        obtain ⟨ad159, e159, hx159_0, hx159_1⟩ := at_T31 HR1.out x5_1 p159 q159; have hw159_1 := hx159_1; have hw159_0 := hx159_0
        cases e159
        replace hx159_0 := kp HB.out hx159_0; replace hx159_1 := kp HB.out hx159_1; replace p159 := eq_true p159; replace q159 := eq_true q159
        refine start_ (n := 10) (S := fun w' => w'.cell? (ad158.add ((x5_1).toNat * 2)) = some (.string ((rd_T31 l0 x5_1).f0)) ∧ w'.cell? ⟨(ad158.add ((x5_1).toNat * 2)).block, (ad158.add ((x5_1).toNat * 2)).off + 1, none⟩ = some (.string ((rd_T31 l0 x5_1).f1)) ∧ w'.cell? (ad159.add ((x5_1).toNat * 2)) = some (.string ((rd_T31 l1 x5_1).f0)) ∧ w'.cell? ⟨(ad159.add ((x5_1).toNat * 2)).block, (ad159.add ((x5_1).toNat * 2)).off + 1, none⟩ = some (.string ((rd_T31 l1 x5_1).f1))) (ds := []) #[false, false, false, false, false, false, false, false, false, false] (by kernel_rfl) rfl rfl ⟨((HB.out.cell (World.block_lt_of_cell? w _ hw158_0)).trans hw158_0), ((HB.out.cell (World.block_lt_of_cell? w _ hw158_1)).trans hw158_1), ((HB.out.cell (World.block_lt_of_cell? w _ hw159_0)).trans hw159_0), ((HB.out.cell (World.block_lt_of_cell? w _ hw159_1)).trans hw159_1)⟩ (fun hHeld => ?_); refine with_tabW laws_eqEntryS.tab6 laws_eqEntryS.bits6 (fun HT_ HW_ => ?_)
        generalize wr.drew = w11 at HB hx158_0 hx158_1 hx159_0 hx159_1 hHeld ⊢
        refine pu 0 17 ?_
        refine pu 1 18 ?_
        refine pu 2 19 ?_
        refine pu 4 21 ?_
        refine pu 5 22 ?_
        refine pu 6 23 ?_
        refine tk4 3 20 hHeld ?_
        refine tk4 7 24 hHeld ?_
        refine on1 8 25 (fun K hK => ?_)
        refine goes_ Try.func103 (by kernel_rfl) rfl #[.agg #[.string ((rd_T31 l0 x5_1).f0), .string ((rd_T31 l0 x5_1).f1)], .agg #[.string ((rd_T31 l1 x5_1).f0), .string ((rd_T31 l1 x5_1).f1)]] (by rfl) rfl rfl mq ?_
        with_reducible refine (laws_eqEntry.calls ((rd_T31 l0 x5_1).f0) ((rd_T31 l0 x5_1).f1) ((rd_T31 l1 x5_1).f0) ((rd_T31 l1 x5_1).f1) false _ A7.out).mono ?_
        rintro e w12 ⟨rfl, hb⟩
        refine ⟨_, rfl, ?_⟩
        replace HB := am (below_step bel hb)
        (try clear hb)
        (try clear hb2)
        (try clear hk)
        (try clear hi)
        refine hK.out _ _ ⟨((HB.out.cell (World.block_lt_of_cell? w _ hw158_0)).trans hw158_0), ((HB.out.cell (World.block_lt_of_cell? w _ hw158_1)).trans hw158_1), ((HB.out.cell (World.block_lt_of_cell? w _ hw159_0)).trans hw159_0), ((HB.out.cell (World.block_lt_of_cell? w _ hw159_1)).trans hw159_1)⟩ (fun hHeld => ?_)
        clear hK K
        refine norm_ (a' := ?_) ?_ ?_
        rotate_left
        ·show Act.put _ (some 25) _ = _
         simp only [Act.put, List.setIfInBounds_toArray, List.set_cons_zero, List.set_cons_succ, i64_w, i32_w]
         rfl
        refine pu 9 26 ?_
        refine done_ (done_of HT_.out (by kernel_rfl)) ?_
        try go_wp2
        go_ret
        exact ⟨eq_, bel⟩
      ·rw [if_neg c6] at H
       exact absurd H (by simp)
     ·rw [if_neg c5] at H
      exact absurd H (by simp)
    ·rw [if_neg c4] at H; have c4b0 := decide_eq_false c4; clear c4; obtain rfl := Option.some.inj H; go_wp2; go_ret
     exact ⟨eq_, bel⟩
 ·rw [if_neg c3] at H
  have c3b0 : ((l0.length : Int) == (l1.length : Int)) = false := beq_eq_false_iff_ne.mpr c3
  have c3b1 : ((l0.length : Int) != (l1.length : Int)) = true := bne_iff_ne.mpr c3
  have c3b2 : (l0.length == l1.length) = false := by first | simpa using c3 | (simp at c3 ⊢; omega)
  obtain rfl := Option.some.inj H; go_enter Try.func78, Try.ntmps78; go_wp2; go_ret
  exact ⟨eq_, bel⟩

end Go.Proofs.Ytedfcehhgbeibaa.QFnExactBookStems
