import Derived.Test.YtdfnijaacnlfaaaQFnExactDeltaOfx0
import Derived.Test.YtdfnijaacnlfaaaQFnExactDeltaOfx14
import Derived.Test.YtdfnijaacnlfaaaVMSh2
namespace Go.Proofs.Ytdfnijaacnlfaaa.QFnExactDeltaOf
open Go.RowKit Go.Proofs.YtdfnijaacnlfaaaW.PrintWords Go.Proofs.YtdfnijaacnlfaaaW.PrintLast Go.Proofs.YtdfnijaacnlfaaaW.PrintMore Go.Proofs.Ytdfnijaacnlfaaa.Sh
attribute [local go_sem] max2_int min2_int max_two min_two max_three min_three max_four min_four
set_option linter.unusedVariables false
set_option linter.unusedSimpArgs false
set_option maxHeartbeats 8000000
set_option maxRecDepth 100000
-- shrunk

/-! ### laws_heldAffixS: function 50 -/
def laws_heldAffixS.l0 : Nat → List (S73) → Int → Int → Option (Int)
 | 0, _, _, _ => none
 | k + 1, x0, x1, x5 => if x5 < (x0.length : Int) then (if 0 ≤ x5 then ((laws_markText.f k x1).bind fun t326 => (if ((rd_T73 x0 x5).f0).toList = t326.toList then (if (((rd_T73 x0 x5).f1) != ((Int.tmod (wrap64 (x1 + 1)) 3) == 0)) = true then (some (-1)) else ((laws_markText.f k (wrap64 ((wrap64 (x1 + 1)) + 1))).bind fun t329 => (if ((rd_T73 x0 x5).f2).toList = t329.toList then ((laws_markText.f k (wrap64 ((wrap64 ((wrap64 (x1 + 1)) + 1)) + 1))).bind fun t331 => (if ((rd_T73 x0 x5).f3).toList = t331.toList then ((laws_markText.f k (wrap64 ((wrap64 ((wrap64 ((wrap64 (x1 + 1)) + 1)) + 1)) + 1))).bind fun t333 => (if ((rd_T73 x0 x5).f4).toList = t333.toList then (laws_heldAffixS.l0 k x0 (wrap64 ((wrap64 ((wrap64 ((wrap64 ((wrap64 (x1 + 1)) + 1)) + 1)) + 1)) + 1)) (wrap64 (x5 + 1))) else (some (-1)))) else (some (-1)))) else (some (-1))))) else (some (-1)))) else (none)) else (some x1)
def laws_heldAffixS.f (k : Nat) (l0 : List (S73)) (a1 : Int) : Option (Int) := laws_heldAffixS.l0 k l0 a1 0
def laws_heldAffixS.T4 : Bool × List (List Nat × List Nat) := (true, [([], []), ([], []), ([0, 1], [0, 1]), ([2], [2]), ([3], [3]), ([], []), ([5], [5]), ([4, 6], [4, 6])])
def laws_heldAffixS.B4 : List Nat := [0, 0, 3, 7, 15, 0, 32, 127]
theorem laws_heldAffixS.tab4 : rtab .any (opsOf Try.f50 4) = laws_heldAffixS.T4 := by kernel_rfl
theorem laws_heldAffixS.bits4 : waitsOk laws_heldAffixS.T4.2 laws_heldAffixS.B4 = true := by kernel_rfl
def laws_heldAffixS.T10 : Bool × List (List Nat × List Nat) := (true, [([], []), ([], []), ([0, 1], [0, 1]), ([2], [2]), ([3], [3]), ([], []), ([5], [5]), ([4, 6], [4, 6])])
def laws_heldAffixS.B10 : List Nat := [0, 0, 3, 7, 15, 0, 32, 127]
theorem laws_heldAffixS.tab10 : rtab .any (opsOf Try.f50 10) = laws_heldAffixS.T10 := by kernel_rfl
theorem laws_heldAffixS.bits10 : waitsOk laws_heldAffixS.T10.2 laws_heldAffixS.B10 = true := by kernel_rfl
def laws_heldAffixS.T13 : Bool × List (List Nat × List Nat) := (true, [([], []), ([], []), ([0, 1], [0, 1]), ([2], [2]), ([3], [3]), ([], []), ([5], [5]), ([4, 6], [4, 6])])
def laws_heldAffixS.B13 : List Nat := [0, 0, 3, 7, 15, 0, 32, 127]
theorem laws_heldAffixS.tab13 : rtab .any (opsOf Try.f50 13) = laws_heldAffixS.T13 := by kernel_rfl
theorem laws_heldAffixS.bits13 : waitsOk laws_heldAffixS.T13.2 laws_heldAffixS.B13 = true := by kernel_rfl
def laws_heldAffixS.T16 : Bool × List (List Nat × List Nat) := (true, [([], []), ([], []), ([0, 1], [0, 1]), ([2], [2]), ([3], [3]), ([], []), ([5], [5]), ([4, 6], [4, 6])])
def laws_heldAffixS.B16 : List Nat := [0, 0, 3, 7, 15, 0, 32, 127]
theorem laws_heldAffixS.tab16 : rtab .any (opsOf Try.f50 16) = laws_heldAffixS.T16 := by kernel_rfl
theorem laws_heldAffixS.bits16 : waitsOk laws_heldAffixS.T16.2 laws_heldAffixS.B16 = true := by kernel_rfl
theorem laws_heldAffixS.calls (k : Nat) (A0 : Option Addr) (c0 : Nat) (l0 : List (S73)) (a1 : Int) (r : Int) (w : World) (hr0 : Kd.C k73 w A0 l0.length l0) (hc0 : l0.length ≤ c0) (h : laws_heldAffixS.f k l0 a1 = some r) :
  Calls Try.prog 50 #[.slice A0 l0.length c0, .int .i64 a1] w fun e w' => e = .returned (.int .i64 r) ∧ Below w.heap.size w w' := by
 have HR0 := am hr0; have HC0 := am hc0; clear hr0 hc0; have HB := am (Below.refl w.heap.size w)
 have H : (laws_heldAffixS.l0 k l0 a1 0) = some r := h
 clear h
 have H' := am H
 clear H; go_enter Try.func50, Try.ntmps50; go_wp2
 go_loopg [1, 5] k (fun kq v1 v5 w' => ∃ (x1_1 : Int) (x5_1 : Int), v1 = .int .i64 x1_1 ∧ v5 = .int .i64 x5_1 ∧ Aside0 (laws_heldAffixS.l0 kq l0 x1_1 x5_1 = some r) ∧ Aside0 (kq ≤ k) ∧ Aside0 (Below w.heap.size w w'))
 case atStart => exact ⟨(a1), (0), sq, sq, H', ⟨Nat.le_refl _⟩, ⟨bel⟩⟩
 case round =>
  clear H'; (try clear p2); obtain ⟨x1_1, x5_1, rfl, rfl, HA, HK1, HB⟩ := hrel
  cases gk with
  | zero => exact absurd HA.out (by simp [laws_heldAffixS.l0])
  | succ k1 =>
   have H := HA.out; clear HA; simp only [laws_heldAffixS.l0] at H
   by_cases c3 : x5_1 < (l0.length : Int)
   ·rw [if_pos c3] at H; have c3b0 := decide_eq_true c3; clear c3
    replace H := it H; obtain ⟨c4b0, H⟩ := H; replace H := bs H; obtain ⟨t326, A50, H⟩ := H; (try dsimp only at H); have A5 := Aside0.mk A50; clear A50
    by_cases c6 : ((rd_T73 l0 x5_1).f0).toList = t326.toList
    ·rw [if_pos c6] at H
     have c6b0 : (((rd_T73 l0 x5_1).f0).toList == t326.toList) = true := beq_iff_eq.mpr c6
     have c6b1 : (((rd_T73 l0 x5_1).f0).toList != t326.toList) = false := bne_eq_false_iff_eq.mpr c6
     clear c6
     by_cases c7 : (((rd_T73 l0 x5_1).f1) != ((Int.tmod (wrap64 (x1_1 + 1)) 3) == 0)) = true
     ·rw [if_pos c7] at H
      have c7b0 : (((rd_T73 l0 x5_1).f1) != ((Int.tmod (wrap64 (x1_1 + 1)) 3) == 0)) = true := c7
      (try (have c7b1 : decide (((rd_T73 l0 x5_1).f1) = ((Int.tmod (wrap64 (x1_1 + 1)) 3) == 0)) = false := by simpa using c7))
      (try (have c7b2 : (((rd_T73 l0 x5_1).f1) == ((Int.tmod (wrap64 (x1_1 + 1)) 3) == 0)) = false := by simpa using c7))
      (try (have c7b3 : ¬ (((rd_T73 l0 x5_1).f1) = ((Int.tmod (wrap64 (x1_1 + 1)) 3) == 0)) := by simpa using c7))
      clear c7; obtain rfl := Option.some.inj H
      try go_wp2
      replace HB := am (below_drew1 HB.out)
      have p325 : 0 ≤ (x5_1 : Int) := of_decide_eq_true ad
      have q325 : x5_1 < (l0.length : Int) := of_decide_eq_true ad
      obtain ⟨ad325, e325, hx325_0, hx325_1, hx325_2, hx325_3, hx325_4⟩ := at_T73 HR0.out x5_1 p325 q325; have hw325_4 := hx325_4; have hw325_3 := hx325_3; have hw325_2 := hx325_2; have hw325_1 := hx325_1; have hw325_0 := hx325_0; cases e325; replace hx325_0 := kp HB.out hx325_0; replace hx325_1 := kp HB.out hx325_1; replace hx325_2 := kp HB.out hx325_2; replace hx325_3 := kp HB.out hx325_3; replace hx325_4 := kp HB.out hx325_4; replace p325 := eq_true p325; replace q325 := eq_true q325
      refine st (n := 8) (S := fun w' => w'.cell? (ad325.add ((x5_1).toNat * 5)) = some (.string ((rd_T73 l0 x5_1).f0)) ∧ w'.cell? ⟨(ad325.add ((x5_1).toNat * 5)).block, (ad325.add ((x5_1).toNat * 5)).off + 1, none⟩ = some (.bool ((rd_T73 l0 x5_1).f1)) ∧ w'.cell? ⟨(ad325.add ((x5_1).toNat * 5)).block, (ad325.add ((x5_1).toNat * 5)).off + 2, none⟩ = some (.string ((rd_T73 l0 x5_1).f2)) ∧ w'.cell? ⟨(ad325.add ((x5_1).toNat * 5)).block, (ad325.add ((x5_1).toNat * 5)).off + 3, none⟩ = some (.string ((rd_T73 l0 x5_1).f3)) ∧ w'.cell? ⟨(ad325.add ((x5_1).toNat * 5)).block, (ad325.add ((x5_1).toNat * 5)).off + 4, none⟩ = some (.string ((rd_T73 l0 x5_1).f4))) (ds := []) ⟨(kp HB.out hw325_0), (kp HB.out hw325_1), (kp HB.out hw325_2), (kp HB.out hw325_3), (kp HB.out hw325_4)⟩ (fun hHeld => ?_); refine with_tabW laws_heldAffixS.tab4 laws_heldAffixS.bits4 (fun HT_ HW_ => ?_)
      generalize wr.drew = w8 at HB hx325_0 hx325_1 hx325_2 hx325_3 hx325_4 hHeld ⊢; refine pu 0 12 ?_; refine pu 1 13 ?_; refine pu 2 14 ?_; refine pu 3 15 ?_; refine pu 5 17 ?_; refine tk5 4 16 hHeld ?_; refine on1 6 18 (fun K hK => ?_)
      refine go1 Try.func89 #[.int .i64 x1_1] ?_
      with_reducible refine (laws_markText.calls k1 x1_1 t326 _ A5.out).mono ?_
      rintro e w9 ⟨rfl, hb⟩; refine ⟨_, rfl, ?_⟩; replace HB := am (below_step bel hb); clear hb; refine hK.out _ _ ⟨(kp HB.out hw325_0), (kp HB.out hw325_1), (kp HB.out hw325_2), (kp HB.out hw325_3), (kp HB.out hw325_4)⟩ (fun hHeld => ?_); clear hK K; refine nm 18 ?_; refine pu 7 19 ?_
      refine done_ (done_of HT_.out (by kernel_rfl)) ?_
      have p327 : 0 ≤ (x5_1 : Int) := of_decide_eq_true ad
      have q327 : x5_1 < (l0.length : Int) := of_decide_eq_true ad
      obtain ⟨ad327, e327, hx327_0, hx327_1, hx327_2, hx327_3, hx327_4⟩ := at_T73 HR0.out x5_1 p327 q327
      obtain rfl : ad325 = ad327 := (by injection e327)
      replace hx327_0 := kp HB.out hx327_0; replace hx327_1 := kp HB.out hx327_1; replace hx327_2 := kp HB.out hx327_2; replace hx327_3 := kp HB.out hx327_3; replace hx327_4 := kp HB.out hx327_4; replace p327 := eq_true p327; replace q327 := eq_true q327
      try go_wp2
      go_ret
      exact ⟨eq_, bel⟩
     rw [if_neg c7] at H
     have c7b0 : (((rd_T73 l0 x5_1).f1) != ((Int.tmod (wrap64 (x1_1 + 1)) 3) == 0)) = false := by simpa using c7
     (try (have c7b1 : decide (((rd_T73 l0 x5_1).f1) = ((Int.tmod (wrap64 (x1_1 + 1)) 3) == 0)) = true := by simpa using c7))
     (try (have c7b2 : (((rd_T73 l0 x5_1).f1) == ((Int.tmod (wrap64 (x1_1 + 1)) 3) == 0)) = true := by simpa using c7))
     clear c7; replace H := bs H; obtain ⟨t329, A100, H⟩ := H; (try dsimp only at H); have A10 := Aside0.mk A100; clear A100
     by_cases c11 : ((rd_T73 l0 x5_1).f2).toList = t329.toList
     ·rw [if_pos c11] at H
      have c11b0 : (((rd_T73 l0 x5_1).f2).toList == t329.toList) = true := beq_iff_eq.mpr c11
      have c11b1 : (((rd_T73 l0 x5_1).f2).toList != t329.toList) = false := bne_eq_false_iff_eq.mpr c11
      clear c11; replace H := bs H; obtain ⟨t331, A120, H⟩ := H; (try dsimp only at H); have A12 := Aside0.mk A120; clear A120
      by_cases c13 : ((rd_T73 l0 x5_1).f3).toList = t331.toList
      ·rw [if_pos c13] at H
       have c13b0 : (((rd_T73 l0 x5_1).f3).toList == t331.toList) = true := beq_iff_eq.mpr c13
       have c13b1 : (((rd_T73 l0 x5_1).f3).toList != t331.toList) = false := bne_eq_false_iff_eq.mpr c13
       clear c13; replace H := bs H; obtain ⟨t333, A140, H⟩ := H; (try dsimp only at H); have A14 := Aside0.mk A140; clear A140
       by_cases c15 : ((rd_T73 l0 x5_1).f4).toList = t333.toList
       ·rw [if_pos c15] at H
        have c15b0 : (((rd_T73 l0 x5_1).f4).toList == t333.toList) = true := beq_iff_eq.mpr c15
        have c15b1 : (((rd_T73 l0 x5_1).f4).toList != t333.toList) = false := bne_eq_false_iff_eq.mpr c15
        clear c15
        have H' := am H
        clear H
        try go_wp2
        replace HB := am (below_drew1 HB.out)
        have p325 : 0 ≤ (x5_1 : Int) := of_decide_eq_true ad
        have q325 : x5_1 < (l0.length : Int) := of_decide_eq_true ad
        obtain ⟨ad325, e325, hx325_0, hx325_1, hx325_2, hx325_3, hx325_4⟩ := at_T73 HR0.out x5_1 p325 q325; have hw325_4 := hx325_4; have hw325_3 := hx325_3; have hw325_2 := hx325_2; have hw325_1 := hx325_1; have hw325_0 := hx325_0; cases e325; replace hx325_0 := kp HB.out hx325_0; replace hx325_1 := kp HB.out hx325_1; replace hx325_2 := kp HB.out hx325_2; replace hx325_3 := kp HB.out hx325_3; replace hx325_4 := kp HB.out hx325_4; replace p325 := eq_true p325; replace q325 := eq_true q325
        refine st (n := 8) (S := fun w' => w'.cell? (ad325.add ((x5_1).toNat * 5)) = some (.string ((rd_T73 l0 x5_1).f0)) ∧ w'.cell? ⟨(ad325.add ((x5_1).toNat * 5)).block, (ad325.add ((x5_1).toNat * 5)).off + 1, none⟩ = some (.bool ((rd_T73 l0 x5_1).f1)) ∧ w'.cell? ⟨(ad325.add ((x5_1).toNat * 5)).block, (ad325.add ((x5_1).toNat * 5)).off + 2, none⟩ = some (.string ((rd_T73 l0 x5_1).f2)) ∧ w'.cell? ⟨(ad325.add ((x5_1).toNat * 5)).block, (ad325.add ((x5_1).toNat * 5)).off + 3, none⟩ = some (.string ((rd_T73 l0 x5_1).f3)) ∧ w'.cell? ⟨(ad325.add ((x5_1).toNat * 5)).block, (ad325.add ((x5_1).toNat * 5)).off + 4, none⟩ = some (.string ((rd_T73 l0 x5_1).f4))) (ds := []) ⟨(kp HB.out hw325_0), (kp HB.out hw325_1), (kp HB.out hw325_2), (kp HB.out hw325_3), (kp HB.out hw325_4)⟩ (fun hHeld => ?_); refine with_tabW laws_heldAffixS.tab4 laws_heldAffixS.bits4 (fun HT_ HW_ => ?_)
        generalize wr.drew = w16 at HB hx325_0 hx325_1 hx325_2 hx325_3 hx325_4 hHeld ⊢; refine pu 0 12 ?_; refine pu 1 13 ?_; refine pu 2 14 ?_; refine pu 3 15 ?_; refine pu 5 17 ?_; refine tk5 4 16 hHeld ?_; refine on1 6 18 (fun K hK => ?_)
        refine go1 Try.func89 #[.int .i64 x1_1] ?_
        with_reducible refine (laws_markText.calls k1 x1_1 t326 _ A5.out).mono ?_
        rintro e w17 ⟨rfl, hb⟩; refine ⟨_, rfl, ?_⟩; replace HB := am (below_step bel hb); clear hb; refine hK.out _ _ ⟨(kp HB.out hw325_0), (kp HB.out hw325_1), (kp HB.out hw325_2), (kp HB.out hw325_3), (kp HB.out hw325_4)⟩ (fun hHeld => ?_); clear hK K; refine nm 18 ?_; refine pu 7 19 ?_
        refine done_ (done_of HT_.out (by kernel_rfl)) ?_
        have p327 : 0 ≤ (x5_1 : Int) := of_decide_eq_true ad
        have q327 : x5_1 < (l0.length : Int) := of_decide_eq_true ad
        obtain ⟨ad327, e327, hx327_0, hx327_1, hx327_2, hx327_3, hx327_4⟩ := at_T73 HR0.out x5_1 p327 q327
        obtain rfl : ad325 = ad327 := (by injection e327)
        replace hx327_0 := kp HB.out hx327_0; replace hx327_1 := kp HB.out hx327_1; replace hx327_2 := kp HB.out hx327_2; replace hx327_3 := kp HB.out hx327_3; replace hx327_4 := kp HB.out hx327_4; replace p327 := eq_true p327; replace q327 := eq_true q327
        try go_wp2
        replace HB := am (below_drew1 HB.out)
        have p328 : 0 ≤ (x5_1 : Int) := of_decide_eq_true ad
        have q328 : x5_1 < (l0.length : Int) := of_decide_eq_true ad
        obtain ⟨ad328, e328, hx328_0, hx328_1, hx328_2, hx328_3, hx328_4⟩ := at_T73 HR0.out x5_1 p328 q328; have hw328_4 := hx328_4; have hw328_3 := hx328_3; have hw328_2 := hx328_2; have hw328_1 := hx328_1; have hw328_0 := hx328_0
        obtain rfl : ad325 = ad328 := (by injection e328)
        replace hx328_0 := kp HB.out hx328_0; replace hx328_1 := kp HB.out hx328_1; replace hx328_2 := kp HB.out hx328_2; replace hx328_3 := kp HB.out hx328_3; replace hx328_4 := kp HB.out hx328_4; replace p328 := eq_true p328; replace q328 := eq_true q328
        refine st (n := 8) (S := fun w' => w'.cell? (ad325.add ((x5_1).toNat * 5)) = some (.string ((rd_T73 l0 x5_1).f0)) ∧ w'.cell? ⟨(ad325.add ((x5_1).toNat * 5)).block, (ad325.add ((x5_1).toNat * 5)).off + 1, none⟩ = some (.bool ((rd_T73 l0 x5_1).f1)) ∧ w'.cell? ⟨(ad325.add ((x5_1).toNat * 5)).block, (ad325.add ((x5_1).toNat * 5)).off + 2, none⟩ = some (.string ((rd_T73 l0 x5_1).f2)) ∧ w'.cell? ⟨(ad325.add ((x5_1).toNat * 5)).block, (ad325.add ((x5_1).toNat * 5)).off + 3, none⟩ = some (.string ((rd_T73 l0 x5_1).f3)) ∧ w'.cell? ⟨(ad325.add ((x5_1).toNat * 5)).block, (ad325.add ((x5_1).toNat * 5)).off + 4, none⟩ = some (.string ((rd_T73 l0 x5_1).f4))) (ds := []) ⟨(kp HB.out hw328_0), (kp HB.out hw328_1), (kp HB.out hw328_2), (kp HB.out hw328_3), (kp HB.out hw328_4)⟩ (fun hHeld => ?_); refine with_tabW laws_heldAffixS.tab10 laws_heldAffixS.bits10 (fun HT_ HW_ => ?_)
        generalize w17.drew = w18 at HB hx328_0 hx328_1 hx328_2 hx328_3 hx328_4 hHeld ⊢; refine pu 0 33 ?_; refine pu 1 34 ?_; refine pu 2 35 ?_; refine pu 3 36 ?_; refine pu 5 38 ?_; refine tk5 4 37 hHeld ?_; refine on1 6 39 (fun K hK => ?_)
        refine go1 Try.func89 #[.int .i64 (wrap64 ((wrap64 (x1_1 + 1)) + 1))] ?_
        with_reducible refine (laws_markText.calls k1 (wrap64 ((wrap64 (x1_1 + 1)) + 1)) t329 _ A10.out).mono ?_
        rintro e w19 ⟨rfl, hb⟩; refine ⟨_, rfl, ?_⟩; replace HB := am (below_step bel hb); clear hb; refine hK.out _ _ ⟨(kp HB.out hw328_0), (kp HB.out hw328_1), (kp HB.out hw328_2), (kp HB.out hw328_3), (kp HB.out hw328_4)⟩ (fun hHeld => ?_); clear hK K; refine nm 39 ?_; refine pu 7 40 ?_
        refine done_ (done_of HT_.out (by kernel_rfl)) ?_
        try go_wp2
        replace HB := am (below_drew1 HB.out)
        have p330 : 0 ≤ (x5_1 : Int) := of_decide_eq_true ad
        have q330 : x5_1 < (l0.length : Int) := of_decide_eq_true ad
        obtain ⟨ad330, e330, hx330_0, hx330_1, hx330_2, hx330_3, hx330_4⟩ := at_T73 HR0.out x5_1 p330 q330; have hw330_4 := hx330_4; have hw330_3 := hx330_3; have hw330_2 := hx330_2; have hw330_1 := hx330_1; have hw330_0 := hx330_0
        obtain rfl : ad325 = ad330 := (by injection e330)
        replace hx330_0 := kp HB.out hx330_0; replace hx330_1 := kp HB.out hx330_1; replace hx330_2 := kp HB.out hx330_2; replace hx330_3 := kp HB.out hx330_3; replace hx330_4 := kp HB.out hx330_4; replace p330 := eq_true p330; replace q330 := eq_true q330
        refine st (n := 8) (S := fun w' => w'.cell? (ad325.add ((x5_1).toNat * 5)) = some (.string ((rd_T73 l0 x5_1).f0)) ∧ w'.cell? ⟨(ad325.add ((x5_1).toNat * 5)).block, (ad325.add ((x5_1).toNat * 5)).off + 1, none⟩ = some (.bool ((rd_T73 l0 x5_1).f1)) ∧ w'.cell? ⟨(ad325.add ((x5_1).toNat * 5)).block, (ad325.add ((x5_1).toNat * 5)).off + 2, none⟩ = some (.string ((rd_T73 l0 x5_1).f2)) ∧ w'.cell? ⟨(ad325.add ((x5_1).toNat * 5)).block, (ad325.add ((x5_1).toNat * 5)).off + 3, none⟩ = some (.string ((rd_T73 l0 x5_1).f3)) ∧ w'.cell? ⟨(ad325.add ((x5_1).toNat * 5)).block, (ad325.add ((x5_1).toNat * 5)).off + 4, none⟩ = some (.string ((rd_T73 l0 x5_1).f4))) (ds := []) ⟨(kp HB.out hw330_0), (kp HB.out hw330_1), (kp HB.out hw330_2), (kp HB.out hw330_3), (kp HB.out hw330_4)⟩ (fun hHeld => ?_); refine with_tabW laws_heldAffixS.tab13 laws_heldAffixS.bits13 (fun HT_ HW_ => ?_)
        generalize w19.drew = w20 at HB hx330_0 hx330_1 hx330_2 hx330_3 hx330_4 hHeld ⊢; refine pu 0 43 ?_; refine pu 1 44 ?_; refine pu 2 45 ?_; refine pu 3 46 ?_; refine pu 5 48 ?_; refine tk5 4 47 hHeld ?_; refine on1 6 49 (fun K hK => ?_)
        refine go1 Try.func89 #[.int .i64 (wrap64 ((wrap64 ((wrap64 (x1_1 + 1)) + 1)) + 1))] ?_
        with_reducible refine (laws_markText.calls k1 (wrap64 ((wrap64 ((wrap64 (x1_1 + 1)) + 1)) + 1)) t331 _ A12.out).mono ?_
        rintro e w21 ⟨rfl, hb⟩; refine ⟨_, rfl, ?_⟩; replace HB := am (below_step bel hb); clear hb; refine hK.out _ _ ⟨(kp HB.out hw330_0), (kp HB.out hw330_1), (kp HB.out hw330_2), (kp HB.out hw330_3), (kp HB.out hw330_4)⟩ (fun hHeld => ?_); clear hK K; refine nm 49 ?_; refine pu 7 50 ?_
        refine done_ (done_of HT_.out (by kernel_rfl)) ?_
        try go_wp2
        replace HB := am (below_drew1 HB.out)
        have p332 : 0 ≤ (x5_1 : Int) := of_decide_eq_true ad
        have q332 : x5_1 < (l0.length : Int) := of_decide_eq_true ad
        obtain ⟨ad332, e332, hx332_0, hx332_1, hx332_2, hx332_3, hx332_4⟩ := at_T73 HR0.out x5_1 p332 q332; have hw332_4 := hx332_4; have hw332_3 := hx332_3; have hw332_2 := hx332_2; have hw332_1 := hx332_1; have hw332_0 := hx332_0
        obtain rfl : ad325 = ad332 := (by injection e332)
        replace hx332_0 := kp HB.out hx332_0; replace hx332_1 := kp HB.out hx332_1; replace hx332_2 := kp HB.out hx332_2; replace hx332_3 := kp HB.out hx332_3; replace hx332_4 := kp HB.out hx332_4; replace p332 := eq_true p332; replace q332 := eq_true q332
        refine st (n := 8) (S := fun w' => w'.cell? (ad325.add ((x5_1).toNat * 5)) = some (.string ((rd_T73 l0 x5_1).f0)) ∧ w'.cell? ⟨(ad325.add ((x5_1).toNat * 5)).block, (ad325.add ((x5_1).toNat * 5)).off + 1, none⟩ = some (.bool ((rd_T73 l0 x5_1).f1)) ∧ w'.cell? ⟨(ad325.add ((x5_1).toNat * 5)).block, (ad325.add ((x5_1).toNat * 5)).off + 2, none⟩ = some (.string ((rd_T73 l0 x5_1).f2)) ∧ w'.cell? ⟨(ad325.add ((x5_1).toNat * 5)).block, (ad325.add ((x5_1).toNat * 5)).off + 3, none⟩ = some (.string ((rd_T73 l0 x5_1).f3)) ∧ w'.cell? ⟨(ad325.add ((x5_1).toNat * 5)).block, (ad325.add ((x5_1).toNat * 5)).off + 4, none⟩ = some (.string ((rd_T73 l0 x5_1).f4))) (ds := []) ⟨(kp HB.out hw332_0), (kp HB.out hw332_1), (kp HB.out hw332_2), (kp HB.out hw332_3), (kp HB.out hw332_4)⟩ (fun hHeld => ?_); refine with_tabW laws_heldAffixS.tab16 laws_heldAffixS.bits16 (fun HT_ HW_ => ?_)
        generalize w21.drew = w22 at HB hx332_0 hx332_1 hx332_2 hx332_3 hx332_4 hHeld ⊢; refine pu 0 53 ?_; refine pu 1 54 ?_; refine pu 2 55 ?_; refine pu 3 56 ?_; refine pu 5 58 ?_; refine tk5 4 57 hHeld ?_; refine on1 6 59 (fun K hK => ?_)
        refine go1 Try.func89 #[.int .i64 (wrap64 ((wrap64 ((wrap64 ((wrap64 (x1_1 + 1)) + 1)) + 1)) + 1))] ?_
        with_reducible refine (laws_markText.calls k1 (wrap64 ((wrap64 ((wrap64 ((wrap64 (x1_1 + 1)) + 1)) + 1)) + 1)) t333 _ A14.out).mono ?_
        rintro e w23 ⟨rfl, hb⟩; refine ⟨_, rfl, ?_⟩; replace HB := am (below_step bel hb); clear hb; refine hK.out _ _ ⟨(kp HB.out hw332_0), (kp HB.out hw332_1), (kp HB.out hw332_2), (kp HB.out hw332_3), (kp HB.out hw332_4)⟩ (fun hHeld => ?_); clear hK K; refine nm 59 ?_; refine pu 7 60 ?_
        refine done_ (done_of HT_.out (by kernel_rfl)) ?_
        try go_wp2
        go_roundg k1
        case measure => have := HK1.out; omega
        case rel => exact ⟨(wrap64 ((wrap64 ((wrap64 ((wrap64 ((wrap64 (x1_1 + 1)) + 1)) + 1)) + 1)) + 1)), (wrap64 (x5_1 + 1)), sq, sq, H', ⟨b58_⟩, ⟨bel⟩⟩
       rw [if_neg c15] at H
       have c15b0 : (((rd_T73 l0 x5_1).f4).toList == t333.toList) = false := beq_eq_false_iff_ne.mpr c15
       have c15b1 : (((rd_T73 l0 x5_1).f4).toList != t333.toList) = true := bne_iff_ne.mpr c15
       obtain rfl := Option.some.inj H
       try go_wp2
       replace HB := am (below_drew1 HB.out)
       have p325 : 0 ≤ (x5_1 : Int) := of_decide_eq_true ad
       have q325 : x5_1 < (l0.length : Int) := of_decide_eq_true ad
       obtain ⟨ad325, e325, hx325_0, hx325_1, hx325_2, hx325_3, hx325_4⟩ := at_T73 HR0.out x5_1 p325 q325; have hw325_4 := hx325_4; have hw325_3 := hx325_3; have hw325_2 := hx325_2; have hw325_1 := hx325_1; have hw325_0 := hx325_0; cases e325; replace hx325_0 := kp HB.out hx325_0; replace hx325_1 := kp HB.out hx325_1; replace hx325_2 := kp HB.out hx325_2; replace hx325_3 := kp HB.out hx325_3; replace hx325_4 := kp HB.out hx325_4; replace p325 := eq_true p325; replace q325 := eq_true q325
       refine st (n := 8) (S := fun w' => w'.cell? (ad325.add ((x5_1).toNat * 5)) = some (.string ((rd_T73 l0 x5_1).f0)) ∧ w'.cell? ⟨(ad325.add ((x5_1).toNat * 5)).block, (ad325.add ((x5_1).toNat * 5)).off + 1, none⟩ = some (.bool ((rd_T73 l0 x5_1).f1)) ∧ w'.cell? ⟨(ad325.add ((x5_1).toNat * 5)).block, (ad325.add ((x5_1).toNat * 5)).off + 2, none⟩ = some (.string ((rd_T73 l0 x5_1).f2)) ∧ w'.cell? ⟨(ad325.add ((x5_1).toNat * 5)).block, (ad325.add ((x5_1).toNat * 5)).off + 3, none⟩ = some (.string ((rd_T73 l0 x5_1).f3)) ∧ w'.cell? ⟨(ad325.add ((x5_1).toNat * 5)).block, (ad325.add ((x5_1).toNat * 5)).off + 4, none⟩ = some (.string ((rd_T73 l0 x5_1).f4))) (ds := []) ⟨(kp HB.out hw325_0), (kp HB.out hw325_1), (kp HB.out hw325_2), (kp HB.out hw325_3), (kp HB.out hw325_4)⟩ (fun hHeld => ?_); refine with_tabW laws_heldAffixS.tab4 laws_heldAffixS.bits4 (fun HT_ HW_ => ?_)
       generalize wr.drew = w24 at HB hx325_0 hx325_1 hx325_2 hx325_3 hx325_4 hHeld ⊢; refine pu 0 12 ?_; refine pu 1 13 ?_; refine pu 2 14 ?_; refine pu 3 15 ?_; refine pu 5 17 ?_; refine tk5 4 16 hHeld ?_; refine on1 6 18 (fun K hK => ?_)
       refine go1 Try.func89 #[.int .i64 x1_1] ?_
       with_reducible refine (laws_markText.calls k1 x1_1 t326 _ A5.out).mono ?_
       rintro e w25 ⟨rfl, hb⟩; refine ⟨_, rfl, ?_⟩; replace HB := am (below_step bel hb); clear hb; refine hK.out _ _ ⟨(kp HB.out hw325_0), (kp HB.out hw325_1), (kp HB.out hw325_2), (kp HB.out hw325_3), (kp HB.out hw325_4)⟩ (fun hHeld => ?_); clear hK K; refine nm 18 ?_; refine pu 7 19 ?_
       refine done_ (done_of HT_.out (by kernel_rfl)) ?_
       have p327 : 0 ≤ (x5_1 : Int) := of_decide_eq_true ad
       have q327 : x5_1 < (l0.length : Int) := of_decide_eq_true ad
       obtain ⟨ad327, e327, hx327_0, hx327_1, hx327_2, hx327_3, hx327_4⟩ := at_T73 HR0.out x5_1 p327 q327
       obtain rfl : ad325 = ad327 := (by injection e327)
       replace hx327_0 := kp HB.out hx327_0; replace hx327_1 := kp HB.out hx327_1; replace hx327_2 := kp HB.out hx327_2; replace hx327_3 := kp HB.out hx327_3; replace hx327_4 := kp HB.out hx327_4; replace p327 := eq_true p327; replace q327 := eq_true q327
       try go_wp2
       replace HB := am (below_drew1 HB.out)
       have p328 : 0 ≤ (x5_1 : Int) := of_decide_eq_true ad
       have q328 : x5_1 < (l0.length : Int) := of_decide_eq_true ad
       obtain ⟨ad328, e328, hx328_0, hx328_1, hx328_2, hx328_3, hx328_4⟩ := at_T73 HR0.out x5_1 p328 q328; have hw328_4 := hx328_4; have hw328_3 := hx328_3; have hw328_2 := hx328_2; have hw328_1 := hx328_1; have hw328_0 := hx328_0
       obtain rfl : ad325 = ad328 := (by injection e328)
       replace hx328_0 := kp HB.out hx328_0; replace hx328_1 := kp HB.out hx328_1; replace hx328_2 := kp HB.out hx328_2; replace hx328_3 := kp HB.out hx328_3; replace hx328_4 := kp HB.out hx328_4; replace p328 := eq_true p328; replace q328 := eq_true q328
       refine st (n := 8) (S := fun w' => w'.cell? (ad325.add ((x5_1).toNat * 5)) = some (.string ((rd_T73 l0 x5_1).f0)) ∧ w'.cell? ⟨(ad325.add ((x5_1).toNat * 5)).block, (ad325.add ((x5_1).toNat * 5)).off + 1, none⟩ = some (.bool ((rd_T73 l0 x5_1).f1)) ∧ w'.cell? ⟨(ad325.add ((x5_1).toNat * 5)).block, (ad325.add ((x5_1).toNat * 5)).off + 2, none⟩ = some (.string ((rd_T73 l0 x5_1).f2)) ∧ w'.cell? ⟨(ad325.add ((x5_1).toNat * 5)).block, (ad325.add ((x5_1).toNat * 5)).off + 3, none⟩ = some (.string ((rd_T73 l0 x5_1).f3)) ∧ w'.cell? ⟨(ad325.add ((x5_1).toNat * 5)).block, (ad325.add ((x5_1).toNat * 5)).off + 4, none⟩ = some (.string ((rd_T73 l0 x5_1).f4))) (ds := []) ⟨(kp HB.out hw328_0), (kp HB.out hw328_1), (kp HB.out hw328_2), (kp HB.out hw328_3), (kp HB.out hw328_4)⟩ (fun hHeld => ?_); refine with_tabW laws_heldAffixS.tab10 laws_heldAffixS.bits10 (fun HT_ HW_ => ?_)
       generalize w25.drew = w26 at HB hx328_0 hx328_1 hx328_2 hx328_3 hx328_4 hHeld ⊢; refine pu 0 33 ?_; refine pu 1 34 ?_; refine pu 2 35 ?_; refine pu 3 36 ?_; refine pu 5 38 ?_; refine tk5 4 37 hHeld ?_; refine on1 6 39 (fun K hK => ?_)
       refine go1 Try.func89 #[.int .i64 (wrap64 ((wrap64 (x1_1 + 1)) + 1))] ?_
       with_reducible refine (laws_markText.calls k1 (wrap64 ((wrap64 (x1_1 + 1)) + 1)) t329 _ A10.out).mono ?_
       rintro e w27 ⟨rfl, hb⟩; refine ⟨_, rfl, ?_⟩; replace HB := am (below_step bel hb); clear hb; refine hK.out _ _ ⟨(kp HB.out hw328_0), (kp HB.out hw328_1), (kp HB.out hw328_2), (kp HB.out hw328_3), (kp HB.out hw328_4)⟩ (fun hHeld => ?_); clear hK K; refine nm 39 ?_; refine pu 7 40 ?_
       refine done_ (done_of HT_.out (by kernel_rfl)) ?_
       try go_wp2
       replace HB := am (below_drew1 HB.out)
       have p330 : 0 ≤ (x5_1 : Int) := of_decide_eq_true ad
       have q330 : x5_1 < (l0.length : Int) := of_decide_eq_true ad
       obtain ⟨ad330, e330, hx330_0, hx330_1, hx330_2, hx330_3, hx330_4⟩ := at_T73 HR0.out x5_1 p330 q330; have hw330_4 := hx330_4; have hw330_3 := hx330_3; have hw330_2 := hx330_2; have hw330_1 := hx330_1; have hw330_0 := hx330_0
       obtain rfl : ad325 = ad330 := (by injection e330)
       replace hx330_0 := kp HB.out hx330_0; replace hx330_1 := kp HB.out hx330_1; replace hx330_2 := kp HB.out hx330_2; replace hx330_3 := kp HB.out hx330_3; replace hx330_4 := kp HB.out hx330_4; replace p330 := eq_true p330; replace q330 := eq_true q330
       refine st (n := 8) (S := fun w' => w'.cell? (ad325.add ((x5_1).toNat * 5)) = some (.string ((rd_T73 l0 x5_1).f0)) ∧ w'.cell? ⟨(ad325.add ((x5_1).toNat * 5)).block, (ad325.add ((x5_1).toNat * 5)).off + 1, none⟩ = some (.bool ((rd_T73 l0 x5_1).f1)) ∧ w'.cell? ⟨(ad325.add ((x5_1).toNat * 5)).block, (ad325.add ((x5_1).toNat * 5)).off + 2, none⟩ = some (.string ((rd_T73 l0 x5_1).f2)) ∧ w'.cell? ⟨(ad325.add ((x5_1).toNat * 5)).block, (ad325.add ((x5_1).toNat * 5)).off + 3, none⟩ = some (.string ((rd_T73 l0 x5_1).f3)) ∧ w'.cell? ⟨(ad325.add ((x5_1).toNat * 5)).block, (ad325.add ((x5_1).toNat * 5)).off + 4, none⟩ = some (.string ((rd_T73 l0 x5_1).f4))) (ds := []) ⟨(kp HB.out hw330_0), (kp HB.out hw330_1), (kp HB.out hw330_2), (kp HB.out hw330_3), (kp HB.out hw330_4)⟩ (fun hHeld => ?_); refine with_tabW laws_heldAffixS.tab13 laws_heldAffixS.bits13 (fun HT_ HW_ => ?_)
       generalize w27.drew = w28 at HB hx330_0 hx330_1 hx330_2 hx330_3 hx330_4 hHeld ⊢; refine pu 0 43 ?_; refine pu 1 44 ?_; refine pu 2 45 ?_; refine pu 3 46 ?_; refine pu 5 48 ?_; refine tk5 4 47 hHeld ?_; refine on1 6 49 (fun K hK => ?_)
       refine go1 Try.func89 #[.int .i64 (wrap64 ((wrap64 ((wrap64 (x1_1 + 1)) + 1)) + 1))] ?_
       with_reducible refine (laws_markText.calls k1 (wrap64 ((wrap64 ((wrap64 (x1_1 + 1)) + 1)) + 1)) t331 _ A12.out).mono ?_
       rintro e w29 ⟨rfl, hb⟩; refine ⟨_, rfl, ?_⟩; replace HB := am (below_step bel hb); clear hb; refine hK.out _ _ ⟨(kp HB.out hw330_0), (kp HB.out hw330_1), (kp HB.out hw330_2), (kp HB.out hw330_3), (kp HB.out hw330_4)⟩ (fun hHeld => ?_); clear hK K; refine nm 49 ?_; refine pu 7 50 ?_
       refine done_ (done_of HT_.out (by kernel_rfl)) ?_
       try go_wp2
       replace HB := am (below_drew1 HB.out)
       have p332 : 0 ≤ (x5_1 : Int) := of_decide_eq_true ad
       have q332 : x5_1 < (l0.length : Int) := of_decide_eq_true ad
       obtain ⟨ad332, e332, hx332_0, hx332_1, hx332_2, hx332_3, hx332_4⟩ := at_T73 HR0.out x5_1 p332 q332; have hw332_4 := hx332_4; have hw332_3 := hx332_3; have hw332_2 := hx332_2; have hw332_1 := hx332_1; have hw332_0 := hx332_0
       obtain rfl : ad325 = ad332 := (by injection e332)
       replace hx332_0 := kp HB.out hx332_0; replace hx332_1 := kp HB.out hx332_1; replace hx332_2 := kp HB.out hx332_2; replace hx332_3 := kp HB.out hx332_3; replace hx332_4 := kp HB.out hx332_4; replace p332 := eq_true p332; replace q332 := eq_true q332
       refine st (n := 8) (S := fun w' => w'.cell? (ad325.add ((x5_1).toNat * 5)) = some (.string ((rd_T73 l0 x5_1).f0)) ∧ w'.cell? ⟨(ad325.add ((x5_1).toNat * 5)).block, (ad325.add ((x5_1).toNat * 5)).off + 1, none⟩ = some (.bool ((rd_T73 l0 x5_1).f1)) ∧ w'.cell? ⟨(ad325.add ((x5_1).toNat * 5)).block, (ad325.add ((x5_1).toNat * 5)).off + 2, none⟩ = some (.string ((rd_T73 l0 x5_1).f2)) ∧ w'.cell? ⟨(ad325.add ((x5_1).toNat * 5)).block, (ad325.add ((x5_1).toNat * 5)).off + 3, none⟩ = some (.string ((rd_T73 l0 x5_1).f3)) ∧ w'.cell? ⟨(ad325.add ((x5_1).toNat * 5)).block, (ad325.add ((x5_1).toNat * 5)).off + 4, none⟩ = some (.string ((rd_T73 l0 x5_1).f4))) (ds := []) ⟨(kp HB.out hw332_0), (kp HB.out hw332_1), (kp HB.out hw332_2), (kp HB.out hw332_3), (kp HB.out hw332_4)⟩ (fun hHeld => ?_); refine with_tabW laws_heldAffixS.tab16 laws_heldAffixS.bits16 (fun HT_ HW_ => ?_)
       generalize w29.drew = w30 at HB hx332_0 hx332_1 hx332_2 hx332_3 hx332_4 hHeld ⊢; refine pu 0 53 ?_; refine pu 1 54 ?_; refine pu 2 55 ?_; refine pu 3 56 ?_; refine pu 5 58 ?_; refine tk5 4 57 hHeld ?_; refine on1 6 59 (fun K hK => ?_)
       refine go1 Try.func89 #[.int .i64 (wrap64 ((wrap64 ((wrap64 ((wrap64 (x1_1 + 1)) + 1)) + 1)) + 1))] ?_
       with_reducible refine (laws_markText.calls k1 (wrap64 ((wrap64 ((wrap64 ((wrap64 (x1_1 + 1)) + 1)) + 1)) + 1)) t333 _ A14.out).mono ?_
       rintro e w31 ⟨rfl, hb⟩; refine ⟨_, rfl, ?_⟩; replace HB := am (below_step bel hb); clear hb; refine hK.out _ _ ⟨(kp HB.out hw332_0), (kp HB.out hw332_1), (kp HB.out hw332_2), (kp HB.out hw332_3), (kp HB.out hw332_4)⟩ (fun hHeld => ?_); clear hK K; refine nm 59 ?_; refine pu 7 60 ?_
       refine done_ (done_of HT_.out (by kernel_rfl)) ?_
       try go_wp2
       go_ret
       exact ⟨eq_, bel⟩
      rw [if_neg c13] at H
      have c13b0 : (((rd_T73 l0 x5_1).f3).toList == t331.toList) = false := beq_eq_false_iff_ne.mpr c13
      have c13b1 : (((rd_T73 l0 x5_1).f3).toList != t331.toList) = true := bne_iff_ne.mpr c13
      obtain rfl := Option.some.inj H
      try go_wp2
      replace HB := am (below_drew1 HB.out)
      have p325 : 0 ≤ (x5_1 : Int) := of_decide_eq_true ad
      have q325 : x5_1 < (l0.length : Int) := of_decide_eq_true ad
      obtain ⟨ad325, e325, hx325_0, hx325_1, hx325_2, hx325_3, hx325_4⟩ := at_T73 HR0.out x5_1 p325 q325; have hw325_4 := hx325_4; have hw325_3 := hx325_3; have hw325_2 := hx325_2; have hw325_1 := hx325_1; have hw325_0 := hx325_0; cases e325; replace hx325_0 := kp HB.out hx325_0; replace hx325_1 := kp HB.out hx325_1; replace hx325_2 := kp HB.out hx325_2; replace hx325_3 := kp HB.out hx325_3; replace hx325_4 := kp HB.out hx325_4; replace p325 := eq_true p325; replace q325 := eq_true q325
      refine st (n := 8) (S := fun w' => w'.cell? (ad325.add ((x5_1).toNat * 5)) = some (.string ((rd_T73 l0 x5_1).f0)) ∧ w'.cell? ⟨(ad325.add ((x5_1).toNat * 5)).block, (ad325.add ((x5_1).toNat * 5)).off + 1, none⟩ = some (.bool ((rd_T73 l0 x5_1).f1)) ∧ w'.cell? ⟨(ad325.add ((x5_1).toNat * 5)).block, (ad325.add ((x5_1).toNat * 5)).off + 2, none⟩ = some (.string ((rd_T73 l0 x5_1).f2)) ∧ w'.cell? ⟨(ad325.add ((x5_1).toNat * 5)).block, (ad325.add ((x5_1).toNat * 5)).off + 3, none⟩ = some (.string ((rd_T73 l0 x5_1).f3)) ∧ w'.cell? ⟨(ad325.add ((x5_1).toNat * 5)).block, (ad325.add ((x5_1).toNat * 5)).off + 4, none⟩ = some (.string ((rd_T73 l0 x5_1).f4))) (ds := []) ⟨(kp HB.out hw325_0), (kp HB.out hw325_1), (kp HB.out hw325_2), (kp HB.out hw325_3), (kp HB.out hw325_4)⟩ (fun hHeld => ?_); refine with_tabW laws_heldAffixS.tab4 laws_heldAffixS.bits4 (fun HT_ HW_ => ?_)
      generalize wr.drew = w32 at HB hx325_0 hx325_1 hx325_2 hx325_3 hx325_4 hHeld ⊢; refine pu 0 12 ?_; refine pu 1 13 ?_; refine pu 2 14 ?_; refine pu 3 15 ?_; refine pu 5 17 ?_; refine tk5 4 16 hHeld ?_; refine on1 6 18 (fun K hK => ?_)
      refine go1 Try.func89 #[.int .i64 x1_1] ?_
      with_reducible refine (laws_markText.calls k1 x1_1 t326 _ A5.out).mono ?_
      rintro e w33 ⟨rfl, hb⟩; refine ⟨_, rfl, ?_⟩; replace HB := am (below_step bel hb); clear hb; refine hK.out _ _ ⟨(kp HB.out hw325_0), (kp HB.out hw325_1), (kp HB.out hw325_2), (kp HB.out hw325_3), (kp HB.out hw325_4)⟩ (fun hHeld => ?_); clear hK K; refine nm 18 ?_; refine pu 7 19 ?_
      refine done_ (done_of HT_.out (by kernel_rfl)) ?_
      have p327 : 0 ≤ (x5_1 : Int) := of_decide_eq_true ad
      have q327 : x5_1 < (l0.length : Int) := of_decide_eq_true ad
      obtain ⟨ad327, e327, hx327_0, hx327_1, hx327_2, hx327_3, hx327_4⟩ := at_T73 HR0.out x5_1 p327 q327
      obtain rfl : ad325 = ad327 := (by injection e327)
      replace hx327_0 := kp HB.out hx327_0; replace hx327_1 := kp HB.out hx327_1; replace hx327_2 := kp HB.out hx327_2; replace hx327_3 := kp HB.out hx327_3; replace hx327_4 := kp HB.out hx327_4; replace p327 := eq_true p327; replace q327 := eq_true q327
      try go_wp2
      replace HB := am (below_drew1 HB.out)
      have p328 : 0 ≤ (x5_1 : Int) := of_decide_eq_true ad
      have q328 : x5_1 < (l0.length : Int) := of_decide_eq_true ad
      obtain ⟨ad328, e328, hx328_0, hx328_1, hx328_2, hx328_3, hx328_4⟩ := at_T73 HR0.out x5_1 p328 q328; have hw328_4 := hx328_4; have hw328_3 := hx328_3; have hw328_2 := hx328_2; have hw328_1 := hx328_1; have hw328_0 := hx328_0
      obtain rfl : ad325 = ad328 := (by injection e328)
      replace hx328_0 := kp HB.out hx328_0; replace hx328_1 := kp HB.out hx328_1; replace hx328_2 := kp HB.out hx328_2; replace hx328_3 := kp HB.out hx328_3; replace hx328_4 := kp HB.out hx328_4; replace p328 := eq_true p328; replace q328 := eq_true q328
      refine st (n := 8) (S := fun w' => w'.cell? (ad325.add ((x5_1).toNat * 5)) = some (.string ((rd_T73 l0 x5_1).f0)) ∧ w'.cell? ⟨(ad325.add ((x5_1).toNat * 5)).block, (ad325.add ((x5_1).toNat * 5)).off + 1, none⟩ = some (.bool ((rd_T73 l0 x5_1).f1)) ∧ w'.cell? ⟨(ad325.add ((x5_1).toNat * 5)).block, (ad325.add ((x5_1).toNat * 5)).off + 2, none⟩ = some (.string ((rd_T73 l0 x5_1).f2)) ∧ w'.cell? ⟨(ad325.add ((x5_1).toNat * 5)).block, (ad325.add ((x5_1).toNat * 5)).off + 3, none⟩ = some (.string ((rd_T73 l0 x5_1).f3)) ∧ w'.cell? ⟨(ad325.add ((x5_1).toNat * 5)).block, (ad325.add ((x5_1).toNat * 5)).off + 4, none⟩ = some (.string ((rd_T73 l0 x5_1).f4))) (ds := []) ⟨(kp HB.out hw328_0), (kp HB.out hw328_1), (kp HB.out hw328_2), (kp HB.out hw328_3), (kp HB.out hw328_4)⟩ (fun hHeld => ?_); refine with_tabW laws_heldAffixS.tab10 laws_heldAffixS.bits10 (fun HT_ HW_ => ?_)
      generalize w33.drew = w34 at HB hx328_0 hx328_1 hx328_2 hx328_3 hx328_4 hHeld ⊢; refine pu 0 33 ?_; refine pu 1 34 ?_; refine pu 2 35 ?_; refine pu 3 36 ?_; refine pu 5 38 ?_; refine tk5 4 37 hHeld ?_; refine on1 6 39 (fun K hK => ?_)
      refine go1 Try.func89 #[.int .i64 (wrap64 ((wrap64 (x1_1 + 1)) + 1))] ?_
      with_reducible refine (laws_markText.calls k1 (wrap64 ((wrap64 (x1_1 + 1)) + 1)) t329 _ A10.out).mono ?_
      rintro e w35 ⟨rfl, hb⟩; refine ⟨_, rfl, ?_⟩; replace HB := am (below_step bel hb); clear hb; refine hK.out _ _ ⟨(kp HB.out hw328_0), (kp HB.out hw328_1), (kp HB.out hw328_2), (kp HB.out hw328_3), (kp HB.out hw328_4)⟩ (fun hHeld => ?_); clear hK K; refine nm 39 ?_; refine pu 7 40 ?_
      refine done_ (done_of HT_.out (by kernel_rfl)) ?_
      try go_wp2
      replace HB := am (below_drew1 HB.out)
      have p330 : 0 ≤ (x5_1 : Int) := of_decide_eq_true ad
      have q330 : x5_1 < (l0.length : Int) := of_decide_eq_true ad
      obtain ⟨ad330, e330, hx330_0, hx330_1, hx330_2, hx330_3, hx330_4⟩ := at_T73 HR0.out x5_1 p330 q330; have hw330_4 := hx330_4; have hw330_3 := hx330_3; have hw330_2 := hx330_2; have hw330_1 := hx330_1; have hw330_0 := hx330_0
      obtain rfl : ad325 = ad330 := (by injection e330)
      replace hx330_0 := kp HB.out hx330_0; replace hx330_1 := kp HB.out hx330_1; replace hx330_2 := kp HB.out hx330_2; replace hx330_3 := kp HB.out hx330_3; replace hx330_4 := kp HB.out hx330_4; replace p330 := eq_true p330; replace q330 := eq_true q330
      refine st (n := 8) (S := fun w' => w'.cell? (ad325.add ((x5_1).toNat * 5)) = some (.string ((rd_T73 l0 x5_1).f0)) ∧ w'.cell? ⟨(ad325.add ((x5_1).toNat * 5)).block, (ad325.add ((x5_1).toNat * 5)).off + 1, none⟩ = some (.bool ((rd_T73 l0 x5_1).f1)) ∧ w'.cell? ⟨(ad325.add ((x5_1).toNat * 5)).block, (ad325.add ((x5_1).toNat * 5)).off + 2, none⟩ = some (.string ((rd_T73 l0 x5_1).f2)) ∧ w'.cell? ⟨(ad325.add ((x5_1).toNat * 5)).block, (ad325.add ((x5_1).toNat * 5)).off + 3, none⟩ = some (.string ((rd_T73 l0 x5_1).f3)) ∧ w'.cell? ⟨(ad325.add ((x5_1).toNat * 5)).block, (ad325.add ((x5_1).toNat * 5)).off + 4, none⟩ = some (.string ((rd_T73 l0 x5_1).f4))) (ds := []) ⟨(kp HB.out hw330_0), (kp HB.out hw330_1), (kp HB.out hw330_2), (kp HB.out hw330_3), (kp HB.out hw330_4)⟩ (fun hHeld => ?_); refine with_tabW laws_heldAffixS.tab13 laws_heldAffixS.bits13 (fun HT_ HW_ => ?_)
      generalize w35.drew = w36 at HB hx330_0 hx330_1 hx330_2 hx330_3 hx330_4 hHeld ⊢; refine pu 0 43 ?_; refine pu 1 44 ?_; refine pu 2 45 ?_; refine pu 3 46 ?_; refine pu 5 48 ?_; refine tk5 4 47 hHeld ?_; refine on1 6 49 (fun K hK => ?_)
      refine go1 Try.func89 #[.int .i64 (wrap64 ((wrap64 ((wrap64 (x1_1 + 1)) + 1)) + 1))] ?_
      with_reducible refine (laws_markText.calls k1 (wrap64 ((wrap64 ((wrap64 (x1_1 + 1)) + 1)) + 1)) t331 _ A12.out).mono ?_
      rintro e w37 ⟨rfl, hb⟩; refine ⟨_, rfl, ?_⟩; replace HB := am (below_step bel hb); clear hb; refine hK.out _ _ ⟨(kp HB.out hw330_0), (kp HB.out hw330_1), (kp HB.out hw330_2), (kp HB.out hw330_3), (kp HB.out hw330_4)⟩ (fun hHeld => ?_); clear hK K; refine nm 49 ?_; refine pu 7 50 ?_
      refine done_ (done_of HT_.out (by kernel_rfl)) ?_
      try go_wp2
      go_ret
      exact ⟨eq_, bel⟩
     rw [if_neg c11] at H
     have c11b0 : (((rd_T73 l0 x5_1).f2).toList == t329.toList) = false := beq_eq_false_iff_ne.mpr c11
     have c11b1 : (((rd_T73 l0 x5_1).f2).toList != t329.toList) = true := bne_iff_ne.mpr c11
     obtain rfl := Option.some.inj H
     try go_wp2
     replace HB := am (below_drew1 HB.out)
     have p325 : 0 ≤ (x5_1 : Int) := of_decide_eq_true ad
     have q325 : x5_1 < (l0.length : Int) := of_decide_eq_true ad
     obtain ⟨ad325, e325, hx325_0, hx325_1, hx325_2, hx325_3, hx325_4⟩ := at_T73 HR0.out x5_1 p325 q325; have hw325_4 := hx325_4; have hw325_3 := hx325_3; have hw325_2 := hx325_2; have hw325_1 := hx325_1; have hw325_0 := hx325_0; cases e325; replace hx325_0 := kp HB.out hx325_0; replace hx325_1 := kp HB.out hx325_1; replace hx325_2 := kp HB.out hx325_2; replace hx325_3 := kp HB.out hx325_3; replace hx325_4 := kp HB.out hx325_4; replace p325 := eq_true p325; replace q325 := eq_true q325
     refine st (n := 8) (S := fun w' => w'.cell? (ad325.add ((x5_1).toNat * 5)) = some (.string ((rd_T73 l0 x5_1).f0)) ∧ w'.cell? ⟨(ad325.add ((x5_1).toNat * 5)).block, (ad325.add ((x5_1).toNat * 5)).off + 1, none⟩ = some (.bool ((rd_T73 l0 x5_1).f1)) ∧ w'.cell? ⟨(ad325.add ((x5_1).toNat * 5)).block, (ad325.add ((x5_1).toNat * 5)).off + 2, none⟩ = some (.string ((rd_T73 l0 x5_1).f2)) ∧ w'.cell? ⟨(ad325.add ((x5_1).toNat * 5)).block, (ad325.add ((x5_1).toNat * 5)).off + 3, none⟩ = some (.string ((rd_T73 l0 x5_1).f3)) ∧ w'.cell? ⟨(ad325.add ((x5_1).toNat * 5)).block, (ad325.add ((x5_1).toNat * 5)).off + 4, none⟩ = some (.string ((rd_T73 l0 x5_1).f4))) (ds := []) ⟨(kp HB.out hw325_0), (kp HB.out hw325_1), (kp HB.out hw325_2), (kp HB.out hw325_3), (kp HB.out hw325_4)⟩ (fun hHeld => ?_); refine with_tabW laws_heldAffixS.tab4 laws_heldAffixS.bits4 (fun HT_ HW_ => ?_)
     generalize wr.drew = w38 at HB hx325_0 hx325_1 hx325_2 hx325_3 hx325_4 hHeld ⊢; refine pu 0 12 ?_; refine pu 1 13 ?_; refine pu 2 14 ?_; refine pu 3 15 ?_; refine pu 5 17 ?_; refine tk5 4 16 hHeld ?_; refine on1 6 18 (fun K hK => ?_)
     refine go1 Try.func89 #[.int .i64 x1_1] ?_
     with_reducible refine (laws_markText.calls k1 x1_1 t326 _ A5.out).mono ?_
     rintro e w39 ⟨rfl, hb⟩; refine ⟨_, rfl, ?_⟩; replace HB := am (below_step bel hb); clear hb; refine hK.out _ _ ⟨(kp HB.out hw325_0), (kp HB.out hw325_1), (kp HB.out hw325_2), (kp HB.out hw325_3), (kp HB.out hw325_4)⟩ (fun hHeld => ?_); clear hK K; refine nm 18 ?_; refine pu 7 19 ?_
     refine done_ (done_of HT_.out (by kernel_rfl)) ?_
     have p327 : 0 ≤ (x5_1 : Int) := of_decide_eq_true ad
     have q327 : x5_1 < (l0.length : Int) := of_decide_eq_true ad
     obtain ⟨ad327, e327, hx327_0, hx327_1, hx327_2, hx327_3, hx327_4⟩ := at_T73 HR0.out x5_1 p327 q327
     obtain rfl : ad325 = ad327 := (by injection e327)
     replace hx327_0 := kp HB.out hx327_0; replace hx327_1 := kp HB.out hx327_1; replace hx327_2 := kp HB.out hx327_2; replace hx327_3 := kp HB.out hx327_3; replace hx327_4 := kp HB.out hx327_4; replace p327 := eq_true p327; replace q327 := eq_true q327
     try go_wp2
     replace HB := am (below_drew1 HB.out)
     have p328 : 0 ≤ (x5_1 : Int) := of_decide_eq_true ad
     have q328 : x5_1 < (l0.length : Int) := of_decide_eq_true ad
     obtain ⟨ad328, e328, hx328_0, hx328_1, hx328_2, hx328_3, hx328_4⟩ := at_T73 HR0.out x5_1 p328 q328; have hw328_4 := hx328_4; have hw328_3 := hx328_3; have hw328_2 := hx328_2; have hw328_1 := hx328_1; have hw328_0 := hx328_0
     obtain rfl : ad325 = ad328 := (by injection e328)
     replace hx328_0 := kp HB.out hx328_0; replace hx328_1 := kp HB.out hx328_1; replace hx328_2 := kp HB.out hx328_2; replace hx328_3 := kp HB.out hx328_3; replace hx328_4 := kp HB.out hx328_4; replace p328 := eq_true p328; replace q328 := eq_true q328
     refine st (n := 8) (S := fun w' => w'.cell? (ad325.add ((x5_1).toNat * 5)) = some (.string ((rd_T73 l0 x5_1).f0)) ∧ w'.cell? ⟨(ad325.add ((x5_1).toNat * 5)).block, (ad325.add ((x5_1).toNat * 5)).off + 1, none⟩ = some (.bool ((rd_T73 l0 x5_1).f1)) ∧ w'.cell? ⟨(ad325.add ((x5_1).toNat * 5)).block, (ad325.add ((x5_1).toNat * 5)).off + 2, none⟩ = some (.string ((rd_T73 l0 x5_1).f2)) ∧ w'.cell? ⟨(ad325.add ((x5_1).toNat * 5)).block, (ad325.add ((x5_1).toNat * 5)).off + 3, none⟩ = some (.string ((rd_T73 l0 x5_1).f3)) ∧ w'.cell? ⟨(ad325.add ((x5_1).toNat * 5)).block, (ad325.add ((x5_1).toNat * 5)).off + 4, none⟩ = some (.string ((rd_T73 l0 x5_1).f4))) (ds := []) ⟨(kp HB.out hw328_0), (kp HB.out hw328_1), (kp HB.out hw328_2), (kp HB.out hw328_3), (kp HB.out hw328_4)⟩ (fun hHeld => ?_); refine with_tabW laws_heldAffixS.tab10 laws_heldAffixS.bits10 (fun HT_ HW_ => ?_)
     generalize w39.drew = w40 at HB hx328_0 hx328_1 hx328_2 hx328_3 hx328_4 hHeld ⊢; refine pu 0 33 ?_; refine pu 1 34 ?_; refine pu 2 35 ?_; refine pu 3 36 ?_; refine pu 5 38 ?_; refine tk5 4 37 hHeld ?_; refine on1 6 39 (fun K hK => ?_)
     refine go1 Try.func89 #[.int .i64 (wrap64 ((wrap64 (x1_1 + 1)) + 1))] ?_
     with_reducible refine (laws_markText.calls k1 (wrap64 ((wrap64 (x1_1 + 1)) + 1)) t329 _ A10.out).mono ?_
     rintro e w41 ⟨rfl, hb⟩; refine ⟨_, rfl, ?_⟩; replace HB := am (below_step bel hb); clear hb; refine hK.out _ _ ⟨(kp HB.out hw328_0), (kp HB.out hw328_1), (kp HB.out hw328_2), (kp HB.out hw328_3), (kp HB.out hw328_4)⟩ (fun hHeld => ?_); clear hK K; refine nm 39 ?_; refine pu 7 40 ?_
     refine done_ (done_of HT_.out (by kernel_rfl)) ?_
     try go_wp2
     go_ret
     exact ⟨eq_, bel⟩
    rw [if_neg c6] at H
    have c6b0 : (((rd_T73 l0 x5_1).f0).toList == t326.toList) = false := beq_eq_false_iff_ne.mpr c6
    have c6b1 : (((rd_T73 l0 x5_1).f0).toList != t326.toList) = true := bne_iff_ne.mpr c6
    obtain rfl := Option.some.inj H
    try go_wp2
    replace HB := am (below_drew1 HB.out)
    have p325 : 0 ≤ (x5_1 : Int) := of_decide_eq_true ad
    have q325 : x5_1 < (l0.length : Int) := of_decide_eq_true ad
    obtain ⟨ad325, e325, hx325_0, hx325_1, hx325_2, hx325_3, hx325_4⟩ := at_T73 HR0.out x5_1 p325 q325; have hw325_4 := hx325_4; have hw325_3 := hx325_3; have hw325_2 := hx325_2; have hw325_1 := hx325_1; have hw325_0 := hx325_0; cases e325; replace hx325_0 := kp HB.out hx325_0; replace hx325_1 := kp HB.out hx325_1; replace hx325_2 := kp HB.out hx325_2; replace hx325_3 := kp HB.out hx325_3; replace hx325_4 := kp HB.out hx325_4; replace p325 := eq_true p325; replace q325 := eq_true q325
    refine st (n := 8) (S := fun w' => w'.cell? (ad325.add ((x5_1).toNat * 5)) = some (.string ((rd_T73 l0 x5_1).f0)) ∧ w'.cell? ⟨(ad325.add ((x5_1).toNat * 5)).block, (ad325.add ((x5_1).toNat * 5)).off + 1, none⟩ = some (.bool ((rd_T73 l0 x5_1).f1)) ∧ w'.cell? ⟨(ad325.add ((x5_1).toNat * 5)).block, (ad325.add ((x5_1).toNat * 5)).off + 2, none⟩ = some (.string ((rd_T73 l0 x5_1).f2)) ∧ w'.cell? ⟨(ad325.add ((x5_1).toNat * 5)).block, (ad325.add ((x5_1).toNat * 5)).off + 3, none⟩ = some (.string ((rd_T73 l0 x5_1).f3)) ∧ w'.cell? ⟨(ad325.add ((x5_1).toNat * 5)).block, (ad325.add ((x5_1).toNat * 5)).off + 4, none⟩ = some (.string ((rd_T73 l0 x5_1).f4))) (ds := []) ⟨(kp HB.out hw325_0), (kp HB.out hw325_1), (kp HB.out hw325_2), (kp HB.out hw325_3), (kp HB.out hw325_4)⟩ (fun hHeld => ?_); refine with_tabW laws_heldAffixS.tab4 laws_heldAffixS.bits4 (fun HT_ HW_ => ?_)
    generalize wr.drew = w42 at HB hx325_0 hx325_1 hx325_2 hx325_3 hx325_4 hHeld ⊢; refine pu 0 12 ?_; refine pu 1 13 ?_; refine pu 2 14 ?_; refine pu 3 15 ?_; refine pu 5 17 ?_; refine tk5 4 16 hHeld ?_; refine on1 6 18 (fun K hK => ?_)
    refine go1 Try.func89 #[.int .i64 x1_1] ?_
    with_reducible refine (laws_markText.calls k1 x1_1 t326 _ A5.out).mono ?_
    rintro e w43 ⟨rfl, hb⟩; refine ⟨_, rfl, ?_⟩; replace HB := am (below_step bel hb); clear hb; refine hK.out _ _ ⟨(kp HB.out hw325_0), (kp HB.out hw325_1), (kp HB.out hw325_2), (kp HB.out hw325_3), (kp HB.out hw325_4)⟩ (fun hHeld => ?_); clear hK K; refine nm 18 ?_; refine pu 7 19 ?_
    refine done_ (done_of HT_.out (by kernel_rfl)) ?_
    try go_wp2
    go_ret
    exact ⟨eq_, bel⟩
   rw [if_neg c3] at H; have c3b0 := decide_eq_false c3; clear c3; obtain rfl := Option.some.inj H; go_wp2; go_ret
   exact ⟨eq_, bel⟩
-- shrunk

/-! ### laws_heldDelta: function 14 -/
def laws_heldDelta.f (k : Nat) (l0_0 : List ByteArray) (l0_1 : List (S66)) (a0_2 : Bool) (l0_3 : List (S73)) (a1 : Int) : Option (Int) := (laws_heldStringS.f k l0_0 a1).bind fun t335 => (if t335 < 0 then (some (-1)) else ((laws_heldEntryS.f k l0_1 t335).bind fun t336 => (if t336 < 0 then (some (-1)) else ((laws_heldAffixS.f k l0_3 t336).bind fun t337 => (if t337 < 0 then (some (-1)) else (some t337))))))
theorem laws_heldDelta.calls (k : Nat) (A0_0 : Option Addr) (c0_0 : Nat) (l0_0 : List ByteArray) (A0_1 : Option Addr) (c0_1 : Nat) (l0_1 : List (S66)) (a0_2 : Bool) (A0_3 : Option Addr) (c0_3 : Nat) (l0_3 : List (S73)) (a1 : Int) (r : Int) (w : World) (hr0_0 : Kd.C Kd.string w A0_0 l0_0.length l0_0) (hc0_0 : l0_0.length ≤ c0_0) (hr0_1 : Kd.C k66 w A0_1 l0_1.length l0_1) (hc0_1 : l0_1.length ≤ c0_1) (hr0_3 : Kd.C k73 w A0_3 l0_3.length l0_3) (hc0_3 : l0_3.length ≤ c0_3) (h : laws_heldDelta.f k l0_0 l0_1 a0_2 l0_3 a1 = some r) :
  Calls Try.prog 14 #[.agg #[.slice A0_0 l0_0.length c0_0, .slice A0_1 l0_1.length c0_1, .bool a0_2, .slice A0_3 l0_3.length c0_3], .int .i64 a1] w fun e w' => e = .returned (.int .i64 r) ∧ Below w.heap.size w w' := by
 have hu31 := Try.underlying31; have HR0_0 := am hr0_0; have HC0_0 := am hc0_0; clear hr0_0 hc0_0; have HR0_1 := am hr0_1; have HC0_1 := am hc0_1; clear hr0_1 hc0_1; have HR0_3 := am hr0_3; have HC0_3 := am hc0_3; clear hr0_3 hc0_3; have HB := am (Below.refl w.heap.size w)
 have H : ((laws_heldStringS.f k l0_0 a1).bind fun t335 => (if t335 < 0 then (some (-1)) else ((laws_heldEntryS.f k l0_1 t335).bind fun t336 => (if t336 < 0 then (some (-1)) else ((laws_heldAffixS.f k l0_3 t336).bind fun t337 => (if t337 < 0 then (some (-1)) else (some t337))))))) = some r := h
 clear h; replace H := bs H; obtain ⟨t335, A30, H⟩ := H; (try dsimp only at H); have A3 := Aside0.mk A30; clear A30
 by_cases c4 : t335 < 0
 ·rw [if_pos c4] at H; have c4b0 := decide_eq_true c4; clear c4; obtain rfl := Option.some.inj H; go_enter Try.func14, Try.ntmps14
  go_wp2_with (first | ((with_reducible refine gate_dst (N := 2) rfl ?_); refine bx 2 (cs := #[.slice A0_0 l0_0.length c0_0, .slice A0_1 l0_1.length c0_1, .bool a0_2, .slice A0_3 l0_3.length c0_3]) (t := 31) ?_; intro gb334 hg w5 hbox hb; have BK334 := am (hbox); have GW334 := am ((b5_ : w.heap.size ≤ gb334)); have GE334 := am ((b5_ : w.heap.size ≤ gb334)); replace HB := am (below_step bel hb); clear hb hbox hg; have ⟨hcz6_0, hcz6_1, hcz6_2, hcz6_3, hfz6_0, hfz6_1, hfz6_2, hfz6_3⟩ := b4c BK334.out) | ((with_reducible refine gate_callee (f := 48) rfl ?_); refine gl 8 Try.func48 #[.slice A0_0 l0_0.length c0_0, .int .i64 a1] ?_; (with_reducible refine (laws_heldStringS.calls k _ _ l0_0 a1 t335 _ ?side1 ?side2 A3.out).mono ?_); (case side1 => exact cq (Kd.C_below HR0_0.out HB.out)); (case side2 => exact HC0_0.out); rintro e w7 ⟨rfl, hb⟩; refine ⟨_, rfl, ?_⟩; replace BK334 := am (blk_below (bq BK334.out) hb); replace HB := am (below_step (bel1 GE334.out) hb); clear hb))
  go_ret
  exact ⟨eq_, bel1 GE334.out⟩
 rw [if_neg c4] at H; have c4b0 := decide_eq_false c4; clear c4; replace H := bs H; obtain ⟨t336, A80, H⟩ := H; (try dsimp only at H); have A8 := Aside0.mk A80; clear A80
 by_cases c9 : t336 < 0
 ·rw [if_pos c9] at H; have c9b0 := decide_eq_true c9; clear c9; obtain rfl := Option.some.inj H; go_enter Try.func14, Try.ntmps14
  go_wp2_with (first | ((with_reducible refine gate_dst (N := 2) rfl ?_); refine bx 2 (cs := #[.slice A0_0 l0_0.length c0_0, .slice A0_1 l0_1.length c0_1, .bool a0_2, .slice A0_3 l0_3.length c0_3]) (t := 31) ?_; intro gb334 hg w10 hbox hb; have BK334 := am (hbox); have GW334 := am ((b5_ : w.heap.size ≤ gb334)); have GE334 := am ((b5_ : w.heap.size ≤ gb334)); replace HB := am (below_step bel hb); clear hb hbox hg; have ⟨hcz11_0, hcz11_1, hcz11_2, hcz11_3, hfz11_0, hfz11_1, hfz11_2, hfz11_3⟩ := b4c BK334.out) | ((with_reducible refine gate_callee (f := 48) rfl ?_); refine gl 8 Try.func48 #[.slice A0_0 l0_0.length c0_0, .int .i64 a1] ?_; (with_reducible refine (laws_heldStringS.calls k _ _ l0_0 a1 t335 _ ?side1 ?side2 A3.out).mono ?_); (case side1 => exact cq (Kd.C_below HR0_0.out HB.out)); (case side2 => exact HC0_0.out); rintro e w12 ⟨rfl, hb⟩; refine ⟨_, rfl, ?_⟩; replace BK334 := am (blk_below (bq BK334.out) hb); replace HB := am (below_step (bel1 GE334.out) hb); clear hb; have ⟨hcz13_0, hcz13_1, hcz13_2, hcz13_3, hfz13_0, hfz13_1, hfz13_2, hfz13_3⟩ := b4c BK334.out) | ((with_reducible refine gate_callee (f := 49) rfl ?_); refine gl 14 Try.func49 #[.slice A0_1 l0_1.length c0_1, .int .i64 t335] ?_; (with_reducible refine (laws_heldEntryS.calls k _ _ l0_1 t335 t336 _ ?side1 ?side2 A8.out).mono ?_); (case side1 => exact cq (Kd.C_below HR0_1.out HB.out)); (case side2 => exact HC0_1.out); rintro e w14 ⟨rfl, hb⟩; refine ⟨_, rfl, ?_⟩; replace BK334 := am (blk_below (bq BK334.out) hb); replace HB := am (below_step (bel1 GE334.out) hb); clear hb))
  go_ret
  exact ⟨eq_, bel1 GE334.out⟩
 rw [if_neg c9] at H; have c9b0 := decide_eq_false c9; clear c9; replace H := bs H; obtain ⟨t337, A150, H⟩ := H; (try dsimp only at H); have A15 := Aside0.mk A150; clear A150
 by_cases c16 : t337 < 0
 ·rw [if_pos c16] at H; have c16b0 := decide_eq_true c16; clear c16; obtain rfl := Option.some.inj H; go_enter Try.func14, Try.ntmps14
  go_wp2_with (first | ((with_reducible refine gate_dst (N := 2) rfl ?_); refine bx 2 (cs := #[.slice A0_0 l0_0.length c0_0, .slice A0_1 l0_1.length c0_1, .bool a0_2, .slice A0_3 l0_3.length c0_3]) (t := 31) ?_; intro gb334 hg w17 hbox hb; have BK334 := am (hbox); have GW334 := am ((b5_ : w.heap.size ≤ gb334)); have GE334 := am ((b5_ : w.heap.size ≤ gb334)); replace HB := am (below_step bel hb); clear hb hbox hg; have ⟨hcz18_0, hcz18_1, hcz18_2, hcz18_3, hfz18_0, hfz18_1, hfz18_2, hfz18_3⟩ := b4c BK334.out) | ((with_reducible refine gate_callee (f := 48) rfl ?_); refine gl 8 Try.func48 #[.slice A0_0 l0_0.length c0_0, .int .i64 a1] ?_; (with_reducible refine (laws_heldStringS.calls k _ _ l0_0 a1 t335 _ ?side1 ?side2 A3.out).mono ?_); (case side1 => exact cq (Kd.C_below HR0_0.out HB.out)); (case side2 => exact HC0_0.out); rintro e w19 ⟨rfl, hb⟩; refine ⟨_, rfl, ?_⟩; replace BK334 := am (blk_below (bq BK334.out) hb); replace HB := am (below_step (bel1 GE334.out) hb); clear hb; have ⟨hcz20_0, hcz20_1, hcz20_2, hcz20_3, hfz20_0, hfz20_1, hfz20_2, hfz20_3⟩ := b4c BK334.out) | ((with_reducible refine gate_callee (f := 49) rfl ?_); refine gl 14 Try.func49 #[.slice A0_1 l0_1.length c0_1, .int .i64 t335] ?_; (with_reducible refine (laws_heldEntryS.calls k _ _ l0_1 t335 t336 _ ?side1 ?side2 A8.out).mono ?_); (case side1 => exact cq (Kd.C_below HR0_1.out HB.out)); (case side2 => exact HC0_1.out); rintro e w21 ⟨rfl, hb⟩; refine ⟨_, rfl, ?_⟩; replace BK334 := am (blk_below (bq BK334.out) hb); replace HB := am (below_step (bel1 GE334.out) hb); clear hb; have ⟨hcz22_0, hcz22_1, hcz22_2, hcz22_3, hfz22_0, hfz22_1, hfz22_2, hfz22_3⟩ := b4c BK334.out) | ((with_reducible refine gate_callee (f := 50) rfl ?_); refine gl 20 Try.func50 #[.slice A0_3 l0_3.length c0_3, .int .i64 t336] ?_; (with_reducible refine (laws_heldAffixS.calls k _ _ l0_3 t336 t337 _ ?side1 ?side2 A15.out).mono ?_); (case side1 => exact cq (Kd.C_below HR0_3.out HB.out)); (case side2 => exact HC0_3.out); rintro e w23 ⟨rfl, hb⟩; refine ⟨_, rfl, ?_⟩; replace BK334 := am (blk_below (bq BK334.out) hb); replace HB := am (below_step (bel1 GE334.out) hb); clear hb))
  go_ret
  exact ⟨eq_, bel1 GE334.out⟩
 rw [if_neg c16] at H; have c16b0 := decide_eq_false c16; clear c16; obtain rfl := Option.some.inj H; go_enter Try.func14, Try.ntmps14
 go_wp2_with (first | ((with_reducible refine gate_dst (N := 2) rfl ?_); refine bx 2 (cs := #[.slice A0_0 l0_0.length c0_0, .slice A0_1 l0_1.length c0_1, .bool a0_2, .slice A0_3 l0_3.length c0_3]) (t := 31) ?_; intro gb334 hg w24 hbox hb; have BK334 := am (hbox); have GW334 := am ((b5_ : w.heap.size ≤ gb334)); have GE334 := am ((b5_ : w.heap.size ≤ gb334)); replace HB := am (below_step bel hb); clear hb hbox hg; have ⟨hcz25_0, hcz25_1, hcz25_2, hcz25_3, hfz25_0, hfz25_1, hfz25_2, hfz25_3⟩ := b4c BK334.out) | ((with_reducible refine gate_callee (f := 48) rfl ?_); refine gl 8 Try.func48 #[.slice A0_0 l0_0.length c0_0, .int .i64 a1] ?_; (with_reducible refine (laws_heldStringS.calls k _ _ l0_0 a1 t335 _ ?side1 ?side2 A3.out).mono ?_); (case side1 => exact cq (Kd.C_below HR0_0.out HB.out)); (case side2 => exact HC0_0.out); rintro e w26 ⟨rfl, hb⟩; refine ⟨_, rfl, ?_⟩; replace BK334 := am (blk_below (bq BK334.out) hb); replace HB := am (below_step (bel1 GE334.out) hb); clear hb; have ⟨hcz27_0, hcz27_1, hcz27_2, hcz27_3, hfz27_0, hfz27_1, hfz27_2, hfz27_3⟩ := b4c BK334.out) | ((with_reducible refine gate_callee (f := 49) rfl ?_); refine gl 14 Try.func49 #[.slice A0_1 l0_1.length c0_1, .int .i64 t335] ?_; (with_reducible refine (laws_heldEntryS.calls k _ _ l0_1 t335 t336 _ ?side1 ?side2 A8.out).mono ?_); (case side1 => exact cq (Kd.C_below HR0_1.out HB.out)); (case side2 => exact HC0_1.out); rintro e w28 ⟨rfl, hb⟩; refine ⟨_, rfl, ?_⟩; replace BK334 := am (blk_below (bq BK334.out) hb); replace HB := am (below_step (bel1 GE334.out) hb); clear hb; have ⟨hcz29_0, hcz29_1, hcz29_2, hcz29_3, hfz29_0, hfz29_1, hfz29_2, hfz29_3⟩ := b4c BK334.out) | ((with_reducible refine gate_callee (f := 50) rfl ?_); refine gl 20 Try.func50 #[.slice A0_3 l0_3.length c0_3, .int .i64 t336] ?_; (with_reducible refine (laws_heldAffixS.calls k _ _ l0_3 t336 t337 _ ?side1 ?side2 A15.out).mono ?_); (case side1 => exact cq (Kd.C_below HR0_3.out HB.out)); (case side2 => exact HC0_3.out); rintro e w30 ⟨rfl, hb⟩; refine ⟨_, rfl, ?_⟩; replace BK334 := am (blk_below (bq BK334.out) hb); replace HB := am (below_step (bel1 GE334.out) hb); clear hb))
 go_ret
 exact ⟨eq_, bel1 GE334.out⟩
end Go.Proofs.Ytdfnijaacnlfaaa.QFnExactDeltaOf
