import Derived.Test.YtedfcehhgbeibaaQFnBookKnowsx0
import Derived.Test.YtedfcehhgbeibaaQFnBookKnowsx9
import Derived.Test.YtedfcehhgbeibaaVMSh2
namespace Go.Proofs.Ytedfcehhgbeibaa.QFnBookKnows
open Go.RowKit Go.Proofs.YtedfcehhgbeibaaW.PrintWords Go.Proofs.YtedfcehhgbeibaaW.PrintLast Go.Proofs.YtedfcehhgbeibaaW.PrintMore Go.Proofs.Ytedfcehhgbeibaa.Sh
attribute [local go_sem] max2_int min2_int max_two min_two max_three min_three max_four min_four   -- for this text's walks alone
set_option linter.unusedVariables false
set_option linter.unusedSimpArgs false
-- shrunk

/-! ### spec_BookOk: function 39 -/
def spec_BookOk.l0 : Nat → Int → List (S44) → List (S31) → Option (Bool)
 | 0, _, _, _ => none
 | k + 1, x3, x214000, x214001 => if x3 < (x214001.length : Int) then (if 0 ≤ x3 then ((spec_l2Entry.f k ((rd_T31 x214001 x3).f0) ((rd_T31 x214001 x3).f1)).bind fun t215 => (if t215 = true then (if x3 > 0 then (if 0 ≤ (wrap64 (x3 - 1)) then (if (wrap64 (x3 - 1)) < (x214001.length : Int) then (if ((Op.bytesLess (((rd_T31 x214001 (wrap64 (x3 - 1))).f0).toList) (((rd_T31 x214001 x3).f0).toList)) = true) then (spec_BookOk.l0 k (wrap64 (x3 + 1)) x214000 x214001) else (some false)) else (none)) else (none)) else (spec_BookOk.l0 k (wrap64 (x3 + 1)) x214000 x214001)) else (some false))) else (none)) else ((spec_l2Affixes.f k x214000).bind fun t218 => (if t218 = true then (some (decide ((x214001.length : Int) ≤ 24))) else (some false)))
def spec_BookOk.f (k : Nat) (l0_0 : List (S44)) (l0_1 : List (S31)) : Option (Bool) := spec_BookOk.l0 k 0 l0_0 l0_1
theorem spec_BookOk.mono_l : ∀ k, (∀ y0 y1 y2, LeO (spec_BookOk.l0 k y0 y1 y2) (spec_BookOk.l0 (k + 1) y0 y1 y2))
 | 0 => fun _ _ _ r h => by simp [spec_BookOk.l0] at h
 | k + 1 => by
  have ih0 := spec_BookOk.mono_l k
  ·intro y0 y1 y2
   unfold spec_BookOk.l0
   repeat' first | (with_reducible first | exact ih0 _ _ _ | exact spec_l2Affixes.mono _ _ | exact spec_l2Entry.mono _ _ _ | exact LeO.refl _ | exact LeO.none _ | refine LeO.ite ?_ ?_ | refine LeO.bind ?_ (fun _ => ?_)) | exact ih0 _ _ _ | exact spec_l2Affixes.mono _ _ | exact spec_l2Entry.mono _ _ _ | exact LeO.none _ | refine LeO.ite ?_ ?_ | refine LeO.bind ?_ (fun _ => ?_)
theorem spec_BookOk.mono : ∀ a0 a1 k, LeO (spec_BookOk.f k a0 a1) (spec_BookOk.f (k + 1) a0 a1) := by
 intro a0 a1 k; have ih0 := spec_BookOk.mono_l k
 unfold spec_BookOk.f
 repeat' first | (with_reducible first | exact ih0 _ _ _ | exact spec_l2Affixes.mono _ _ | exact spec_l2Entry.mono _ _ _ | exact LeO.refl _ | exact LeO.none _ | refine LeO.ite ?_ ?_ | refine LeO.bind ?_ (fun _ => ?_)) | exact ih0 _ _ _ | exact spec_l2Affixes.mono _ _ | exact spec_l2Entry.mono _ _ _ | exact LeO.none _ | refine LeO.ite ?_ ?_ | refine LeO.bind ?_ (fun _ => ?_)
def spec_BookOk.T4 : Bool × List (List Nat × List Nat) := (true, [([], []), ([0], [0]), ([], []), ([1, 2], [1, 2]), ([3], [3]), ([4], [4]), ([5], [5]), ([6, 5], [6]), ([7], [7]), ([8, 7], [7, 8]), ([9, 7, 7], [7, 9]), ([10], [10]), ([11, 10], [10, 11]), ([10], [10]), ([13, 10], [10, 13]), ([12, 14, 10], [10, 12, 14]), ([15, 10], [10, 15]), ([16, 10], [10, 16]), ([10], [10]), ([18, 10], [10, 18]), ([10], [10]), ([19, 20, 10], [10, 19, 20]), ([21, 10], [10, 21]), ([22, 10], [10, 22]), ([17, 23, 10], [10, 17, 23]), ([10, 24, 7], [7, 10, 24]), ([7, 25], [7, 25])])
def spec_BookOk.B4 : List Nat := [0, 1, 0, 7, 15, 31, 63, 127, 255, 511, 1023, 2047, 4095, 2047, 10239, 32767, 65535, 131071, 2047, 264191, 2047, 1837055, 3934207, 8128511, 16777215, 33554431, 67108863]
theorem spec_BookOk.tab4 : rtab .any (opsOf Try.f39 4) = spec_BookOk.T4 := by kernel_rfl
theorem spec_BookOk.bits4 : waitsOk spec_BookOk.T4.2 spec_BookOk.B4 = true := by kernel_rfl
set_option maxHeartbeats 8000000 in
set_option maxRecDepth 100000 in
theorem spec_BookOk.calls (k : Nat) (A0_0 : Option Addr) (c0_0 : Nat) (l0_0 : List (S44)) (A0_1 : Option Addr) (c0_1 : Nat) (l0_1 : List (S31)) (r : Bool) (w : World) (hr0_0 : Kd.C k44 w A0_0 l0_0.length l0_0) (hc0_0 : l0_0.length ≤ c0_0) (hr0_1 : Kd.C k31 w A0_1 l0_1.length l0_1) (hc0_1 : l0_1.length ≤ c0_1) (h : spec_BookOk.f k l0_0 l0_1 = some r) :
  Calls Try.prog 39 #[.agg #[.slice A0_0 l0_0.length c0_0, .slice A0_1 l0_1.length c0_1]] w fun e w' => e = .returned (.bool r) ∧ Below w.heap.size w w' := by
 have hu55 := Try.underlying55; have hu31 := Try.underlying31; have HR0_0 := am hr0_0; have HC0_0 := am hc0_0; clear hr0_0 hc0_0; have HR0_1 := am hr0_1; have HC0_1 := am hc0_1; clear hr0_1 hc0_1; have HB := am (Below.refl w.heap.size w)
 have H : (spec_BookOk.l0 k 0 l0_0 l0_1) = some r := h
 clear h
 have H' := am H
 clear H; go_enter Try.func39, Try.ntmps39
 go_wp2_with (first | ((with_reducible refine gate_dst (N := 1) rfl ?_); (try (refine gate_guard (by rfl) ?_; dsimp only)); refine bx 1 (cs := #[.slice A0_0 l0_0.length c0_0, .slice A0_1 l0_1.length c0_1]) (t := 55) ?_; intro gb213 hg w2 hbox hb; have BK213 := am (hbox); have GW213 := am ((b15_ : w.heap.size ≤ gb213)); have GE213 := am ((b15_ : w.heap.size ≤ gb213)); replace HB := am (below_step bel hb); clear hb hbox hg))
 go_loopg [3] k (fun kq v3 w' => ∃ (x3_1 : Int), v3 = .int .i64 x3_1 ∧ Aside0 (spec_BookOk.l0 kq x3_1 l0_0 l0_1 = some r) ∧ Aside0 (kq ≤ k) ∧ Aside0 (w'.heap[gb213]? = some (.cells #[(.slice A0_0 l0_0.length c0_0), (.slice A0_1 l0_1.length c0_1)] 55 (0, 0))) ∧ Aside0 (Below w.heap.size w w'))
 case atStart => exact ⟨(0), sq, H', ⟨Nat.le_refl _⟩, ⟨bq BK213.out⟩, ⟨bel1 GE213.out⟩⟩
 case round =>
  clear H'; (try clear p2); obtain ⟨x3_1, rfl, HA, HK1, BK213, HB⟩ := hrel
  cases gk with
  | zero => exact absurd HA.out (by simp [spec_BookOk.l0])
  | succ k1 =>
   have H := HA.out; clear HA
   simp only [spec_BookOk.l0] at H
   by_cases c3 : x3_1 < (l0_1.length : Int)
   ·rw [if_pos c3] at H; have c3b0 := decide_eq_true c3; clear c3
    by_cases c4 : 0 ≤ x3_1
    ·rw [if_pos c4] at H; have c4b0 := decide_eq_true c4; clear c4; replace H := Option.bind_eq_some_iff.mp H; obtain ⟨t215, A50, H⟩ := H; replace H : (if t215 = true then (if x3_1 > 0 then (if 0 ≤ (wrap64 (x3_1 - 1)) then (if (wrap64 (x3_1 - 1)) < (l0_1.length : Int) then (if ((Op.bytesLess (((rd_T31 l0_1 (wrap64 (x3_1 - 1))).f0).toList) (((rd_T31 l0_1 x3_1).f0).toList)) = true) then (spec_BookOk.l0 k1 (wrap64 (x3_1 + 1)) l0_0 l0_1) else (some false)) else (none)) else (none)) else (spec_BookOk.l0 k1 (wrap64 (x3_1 + 1)) l0_0 l0_1)) else (some false)) = some r := H; have A5 := Aside0.mk A50; clear A50
     by_cases c6 : t215 = true
     ·subst c6
      have H1 : (if x3_1 > 0 then (if 0 ≤ (wrap64 (x3_1 - 1)) then (if (wrap64 (x3_1 - 1)) < (l0_1.length : Int) then (if ((Op.bytesLess (((rd_T31 l0_1 (wrap64 (x3_1 - 1))).f0).toList) (((rd_T31 l0_1 x3_1).f0).toList)) = true) then (spec_BookOk.l0 k1 (wrap64 (x3_1 + 1)) l0_0 l0_1) else (some false)) else (none)) else (none)) else (spec_BookOk.l0 k1 (wrap64 (x3_1 + 1)) l0_0 l0_1)) = some r := b34_
      replace H := H1; clear H1
      by_cases c7 : x3_1 > 0
      ·rw [if_pos c7] at H; have c7b0 := decide_eq_true c7; clear c7; obtain ⟨ji8, hji8⟩ : ∃ j_ : Int, (wrap64 (x3_1 - 1)) = j_ := ⟨_, rfl⟩
       replace H : (if 0 ≤ (ji8) then (if (ji8) < (l0_1.length : Int) then (if ((Op.bytesLess (((rd_T31 l0_1 (ji8)).f0).toList) (((rd_T31 l0_1 x3_1).f0).toList)) = true) then (spec_BookOk.l0 k1 (wrap64 (x3_1 + 1)) l0_0 l0_1) else (some false)) else (none)) else (none)) = some r := by first | (rw [hji8] at H; exact H) | (simp only [hji8] at H ⊢; exact H)
       (try rw [hji8] at A5)
       have hji8w : (IntKind.i64.wrap (x3_1 - 1)) = ji8 := (i64_w _).trans hji8
       by_cases c9 : 0 ≤ (ji8)
       ·rw [if_pos c9] at H; have c9b0 := decide_eq_true c9; clear c9
        by_cases c10 : (ji8) < (l0_1.length : Int)
        ·rw [if_pos c10] at H; have c10b0 := decide_eq_true c10; clear c10
         by_cases c11 : ((Op.bytesLess (((rd_T31 l0_1 (ji8)).f0).toList) (((rd_T31 l0_1 x3_1).f0).toList)) = true)
         ·rw [if_pos c11] at H
          have c11b0 : (Op.bytesLess (((rd_T31 l0_1 (ji8)).f0).toList) (((rd_T31 l0_1 x3_1).f0).toList)) = true := c11
          clear c11
          have H' := am H
          clear H; have hcz12_0 := bc BK213.out 0; have hcz12_1 := bc BK213.out 1; have hfz12_0 := bf BK213.out 0; have hfz12_1 := bf BK213.out 1
          try go_wp2
          replace BK213 := am (blk_drew BK213.out); replace HB := am (below_drew1 HB.out)
          have p214 : 0 ≤ (x3_1 : Int) := of_decide_eq_true ad
          have q214 : x3_1 < (l0_1.length : Int) := of_decide_eq_true ad
          obtain ⟨ad214, e214, hx214_0, hx214_1⟩ := at_T31 HR0_1.out x3_1 p214 q214; have hw214_1 := hx214_1; have hw214_0 := hx214_0
          cases e214
          replace hx214_0 := kp HB.out hx214_0; replace hx214_1 := kp HB.out hx214_1; replace p214 := eq_true p214; replace q214 := eq_true q214
          have p216 : 0 ≤ ((ji8) : Int) := of_decide_eq_true ad
          have q216 : (ji8) < (l0_1.length : Int) := of_decide_eq_true ad
          obtain ⟨ad216, e216, hx216_0, hx216_1⟩ := at_T31 HR0_1.out (ji8) p216 q216; have hw216_1 := hx216_1; have hw216_0 := hx216_0
          obtain rfl : ad214 = ad216 := (by injection e216)
          replace hx216_0 := kp HB.out hx216_0; replace hx216_1 := kp HB.out hx216_1; replace p216 := eq_true p216; replace q216 := eq_true q216
          have p217 : 0 ≤ (x3_1 : Int) := of_decide_eq_true ad
          have q217 : x3_1 < (l0_1.length : Int) := of_decide_eq_true ad
          obtain ⟨ad217, e217, hx217_0, hx217_1⟩ := at_T31 HR0_1.out x3_1 p217 q217; have hw217_1 := hx217_1; have hw217_0 := hx217_0
          obtain rfl : ad214 = ad217 := (by injection e217)
          replace hx217_0 := kp HB.out hx217_0; replace hx217_1 := kp HB.out hx217_1; replace p217 := eq_true p217; replace q217 := eq_true q217
          refine st (n := 27) (S := fun w' => w'.cell? ⟨gb213, 0, none⟩ = some (.slice A0_0 l0_0.length c0_0) ∧ w'.cell? ⟨gb213, 1, none⟩ = some (.slice (some ad214) l0_1.length c0_1) ∧ w'.cell? (ad214.add ((x3_1).toNat * 2)) = some (.string ((rd_T31 l0_1 x3_1).f0)) ∧ w'.cell? ⟨(ad214.add ((x3_1).toNat * 2)).block, (ad214.add ((x3_1).toNat * 2)).off + 1, none⟩ = some (.string ((rd_T31 l0_1 x3_1).f1)) ∧ w'.cell? (ad214.add (((ji8)).toNat * 2)) = some (.string ((rd_T31 l0_1 (ji8)).f0)) ∧ w'.cell? ⟨(ad214.add (((ji8)).toNat * 2)).block, (ad214.add (((ji8)).toNat * 2)).off + 1, none⟩ = some (.string ((rd_T31 l0_1 (ji8)).f1)) ∧ w'.cell? (ad214.add ((x3_1).toNat * 2)) = some (.string ((rd_T31 l0_1 x3_1).f0)) ∧ w'.cell? ⟨(ad214.add ((x3_1).toNat * 2)).block, (ad214.add ((x3_1).toNat * 2)).off + 1, none⟩ = some (.string ((rd_T31 l0_1 x3_1).f1))) (ds := []) ⟨(blk_cell BK213.out 0).trans rfl, (blk_cell BK213.out 1).trans rfl, (kp HB.out hw214_0), (kp HB.out hw214_1), (kp HB.out hw216_0), (kp HB.out hw216_1), (kp HB.out hw217_0), (kp HB.out hw217_1)⟩ (fun hHeld => ?_); refine with_tabW spec_BookOk.tab4 spec_BookOk.bits4 (fun HT_ HW_ => ?_)
          generalize wr.drew = w13 at BK213 HB hx214_0 hx214_1 hx216_0 hx216_1 hx217_0 hx217_1 hHeld ⊢
          refine pu 0 11 ?_
          refine pu 2 13 ?_
          refine take_ (i := 1) (N := some 12) (v := ?_) (a' := ?_) #[true, true, true, false, false, false, false, false, false, false, false, false, false, false, false, false, false, false, false, false, false, false, false, false, false, false, false] rfl rfl (take_ofW HT_.out HW_.out (by kernel_rfl)) (fun _ _ _ h => h) (Or.inl ⟨by rfl, ?_⟩) hHeld ?_ ?_
          rotate_left
          ·rintro w' ⟨s0, s1, s2, s3, s4, s5, s6, s7⟩
           go_simp
           with_reducible rfl
          rotate_left
          ·simp only [Act.put, List.setIfInBounds_toArray, List.set_cons_zero, List.set_cons_succ, i64_w, i32_w]
           rfl
          refine pu 3 14 ?_
          refine take_ (i := 4) (N := some 15) (v := ?_) (a' := ?_) #[true, true, true, true, true, false, false, false, false, false, false, false, false, false, false, false, false, false, false, false, false, false, false, false, false, false, false] rfl rfl (take_ofW HT_.out HW_.out (by kernel_rfl)) (fun _ _ _ h => h) (Or.inl ⟨by rfl, ?_⟩) hHeld ?_ ?_
          rotate_left
          ·rintro w' ⟨s0, s1, s2, s3, s4, s5, s6, s7⟩
           go_simp
           with_reducible rfl
          rotate_left
          ·simp only [Act.put, List.setIfInBounds_toArray, List.set_cons_zero, List.set_cons_succ, i64_w, i32_w]
           rfl
          refine on1 5 16 (fun K hK => ?_)
          refine goes_ Try.func54 (by kernel_rfl) rfl #[.agg #[.string ((rd_T31 l0_1 x3_1).f0), .string ((rd_T31 l0_1 x3_1).f1)]] (by rfl) rfl rfl mq ?_
          with_reducible refine (spec_l2Entry.calls k1 ((rd_T31 l0_1 x3_1).f0) ((rd_T31 l0_1 x3_1).f1) true _ A5.out).mono ?_
          rintro e w14 ⟨rfl, hb⟩
          refine ⟨_, rfl, ?_⟩
          replace BK213 := am (blk_below (g := gb213) (o := .cells #[.slice A0_0 l0_0.length c0_0, .slice (some ad214) l0_1.length c0_1] 55 (0, 0)) (bq BK213.out) hb); replace HB := am (below_step (bel1 GE213.out) hb)
          (try clear hb)
          (try clear hb2)
          (try clear hk)
          (try clear hi)
          refine hK.out _ _ ⟨(blk_cell BK213.out 0).trans rfl, (blk_cell BK213.out 1).trans rfl, (kp HB.out hw214_0), (kp HB.out hw214_1), (kp HB.out hw216_0), (kp HB.out hw216_1), (kp HB.out hw217_0), (kp HB.out hw217_1)⟩ (fun hHeld => ?_)
          clear hK K
          refine norm_ (a' := ?_) ?_ ?_
          rotate_left
          ·show Act.put _ (some 16) _ = _
           simp only [Act.put, List.setIfInBounds_toArray, List.set_cons_zero, List.set_cons_succ, i64_w, i32_w]
           rfl
          refine pu 6 17 ?_
          refine pu 7 18 ?_
          refine pu 8 19 ?_
          refine pu 9 20 ?_
          refine pu 10 21 ?_
          refine pu 11 22 ?_
          refine pu 13 24 ?_
          refine pu 14 25 ?_
          refine pu 18 29 ?_
          refine pu 20 31 ?_
          refine take_ (i := 12) (N := some 23) (v := ?_) (a' := ?_) #[true, true, true, true, true, true, true, true, true, true, true, true, true, true, true, false, false, false, true, false, true, false, false, false, false, false, false] rfl rfl (take_ofW HT_.out HW_.out (by kernel_rfl)) (fun _ _ _ h => h) (Or.inl ⟨by rfl, ?_⟩) hHeld ?_ ?_
          rotate_left
          ·rintro w' ⟨s0, s1, s2, s3, s4, s5, s6, s7⟩
           go_simp
           with_reducible rfl
          rotate_left
          ·simp only [Act.put, List.setIfInBounds_toArray, List.set_cons_zero, List.set_cons_succ, i64_w, i32_w]
           rfl
          refine pu 15 26 ?_
          refine pu 16 27 ?_
          refine take_ (i := 17) (N := some 28) (v := ?_) (a' := ?_) #[true, true, true, true, true, true, true, true, true, true, true, true, true, true, true, true, true, true, true, false, true, false, false, false, false, false, false] rfl rfl (take_ofW HT_.out HW_.out (by kernel_rfl)) (fun _ _ _ h => h) (Or.inl ⟨by rfl, ?_⟩) hHeld ?_ ?_
          rotate_left
          ·rintro w' ⟨s0, s1, s2, s3, s4, s5, s6, s7⟩
           go_simp
           with_reducible rfl
          rotate_left
          ·simp only [Act.put, List.setIfInBounds_toArray, List.set_cons_zero, List.set_cons_succ, i64_w, i32_w]
           rfl
          refine take_ (i := 19) (N := some 30) (v := ?_) (a' := ?_) #[true, true, true, true, true, true, true, true, true, true, true, true, true, true, true, true, true, true, true, true, true, false, false, false, false, false, false] rfl rfl (take_ofW HT_.out HW_.out (by kernel_rfl)) (fun _ _ _ h => h) (Or.inl ⟨by rfl, ?_⟩) hHeld ?_ ?_
          rotate_left
          ·rintro w' ⟨s0, s1, s2, s3, s4, s5, s6, s7⟩
           go_simp
           with_reducible rfl
          rotate_left
          ·simp only [Act.put, List.setIfInBounds_toArray, List.set_cons_zero, List.set_cons_succ, i64_w, i32_w]
           rfl
          refine pu 21 32 ?_
          refine pu 22 33 ?_
          refine take_ (i := 23) (N := some 34) (v := ?_) (a' := ?_) #[true, true, true, true, true, true, true, true, true, true, true, true, true, true, true, true, true, true, true, true, true, true, true, true, false, false, false] rfl rfl (take_ofW HT_.out HW_.out (by kernel_rfl)) (fun _ _ _ h => h) (Or.inl ⟨by rfl, ?_⟩) hHeld ?_ ?_
          rotate_left
          ·rintro w' ⟨s0, s1, s2, s3, s4, s5, s6, s7⟩
           go_simp
           with_reducible rfl
          rotate_left
          ·simp only [Act.put, List.setIfInBounds_toArray, List.set_cons_zero, List.set_cons_succ, i64_w, i32_w]
           rfl
          refine pu 24 35 ?_
          refine pu 25 36 ?_
          refine pu 26 37 ?_
          refine done_ (done_of HT_.out (by kernel_rfl)) ?_
          try go_wp2
          go_roundg k1
          case measure => have := HK1.out; omega
          case rel => exact ⟨(wrap64 (x3_1 + 1)), sq, H', ⟨b62_⟩, ⟨bq BK213.out⟩, ⟨bel1 GE213.out⟩⟩
         ·rw [if_neg c11] at H
          have c11b0 : (Op.bytesLess (((rd_T31 l0_1 (ji8)).f0).toList) (((rd_T31 l0_1 x3_1).f0).toList)) = false := by simpa using c11
          clear c11; obtain rfl := Option.some.inj H; have hcz15_0 := bc BK213.out 0; have hcz15_1 := bc BK213.out 1; have hfz15_0 := bf BK213.out 0; have hfz15_1 := bf BK213.out 1
          try go_wp2
          replace BK213 := am (blk_drew BK213.out); replace HB := am (below_drew1 HB.out)
          have p214 : 0 ≤ (x3_1 : Int) := of_decide_eq_true ad
          have q214 : x3_1 < (l0_1.length : Int) := of_decide_eq_true ad
          obtain ⟨ad214, e214, hx214_0, hx214_1⟩ := at_T31 HR0_1.out x3_1 p214 q214; have hw214_1 := hx214_1; have hw214_0 := hx214_0
          cases e214
          replace hx214_0 := kp HB.out hx214_0; replace hx214_1 := kp HB.out hx214_1; replace p214 := eq_true p214; replace q214 := eq_true q214
          have p216 : 0 ≤ ((ji8) : Int) := of_decide_eq_true ad
          have q216 : (ji8) < (l0_1.length : Int) := of_decide_eq_true ad
          obtain ⟨ad216, e216, hx216_0, hx216_1⟩ := at_T31 HR0_1.out (ji8) p216 q216; have hw216_1 := hx216_1; have hw216_0 := hx216_0
          obtain rfl : ad214 = ad216 := (by injection e216)
          replace hx216_0 := kp HB.out hx216_0; replace hx216_1 := kp HB.out hx216_1; replace p216 := eq_true p216; replace q216 := eq_true q216
          have p217 : 0 ≤ (x3_1 : Int) := of_decide_eq_true ad
          have q217 : x3_1 < (l0_1.length : Int) := of_decide_eq_true ad
          obtain ⟨ad217, e217, hx217_0, hx217_1⟩ := at_T31 HR0_1.out x3_1 p217 q217; have hw217_1 := hx217_1; have hw217_0 := hx217_0
          obtain rfl : ad214 = ad217 := (by injection e217)
          replace hx217_0 := kp HB.out hx217_0; replace hx217_1 := kp HB.out hx217_1; replace p217 := eq_true p217; replace q217 := eq_true q217
          refine st (n := 27) (S := fun w' => w'.cell? ⟨gb213, 0, none⟩ = some (.slice A0_0 l0_0.length c0_0) ∧ w'.cell? ⟨gb213, 1, none⟩ = some (.slice (some ad214) l0_1.length c0_1) ∧ w'.cell? (ad214.add ((x3_1).toNat * 2)) = some (.string ((rd_T31 l0_1 x3_1).f0)) ∧ w'.cell? ⟨(ad214.add ((x3_1).toNat * 2)).block, (ad214.add ((x3_1).toNat * 2)).off + 1, none⟩ = some (.string ((rd_T31 l0_1 x3_1).f1)) ∧ w'.cell? (ad214.add (((ji8)).toNat * 2)) = some (.string ((rd_T31 l0_1 (ji8)).f0)) ∧ w'.cell? ⟨(ad214.add (((ji8)).toNat * 2)).block, (ad214.add (((ji8)).toNat * 2)).off + 1, none⟩ = some (.string ((rd_T31 l0_1 (ji8)).f1)) ∧ w'.cell? (ad214.add ((x3_1).toNat * 2)) = some (.string ((rd_T31 l0_1 x3_1).f0)) ∧ w'.cell? ⟨(ad214.add ((x3_1).toNat * 2)).block, (ad214.add ((x3_1).toNat * 2)).off + 1, none⟩ = some (.string ((rd_T31 l0_1 x3_1).f1))) (ds := []) ⟨(blk_cell BK213.out 0).trans rfl, (blk_cell BK213.out 1).trans rfl, (kp HB.out hw214_0), (kp HB.out hw214_1), (kp HB.out hw216_0), (kp HB.out hw216_1), (kp HB.out hw217_0), (kp HB.out hw217_1)⟩ (fun hHeld => ?_); refine with_tabW spec_BookOk.tab4 spec_BookOk.bits4 (fun HT_ HW_ => ?_)
          generalize wr.drew = w16 at BK213 HB hx214_0 hx214_1 hx216_0 hx216_1 hx217_0 hx217_1 hHeld ⊢
          refine pu 0 11 ?_
          refine pu 2 13 ?_
          refine take_ (i := 1) (N := some 12) (v := ?_) (a' := ?_) #[true, true, true, false, false, false, false, false, false, false, false, false, false, false, false, false, false, false, false, false, false, false, false, false, false, false, false] rfl rfl (take_ofW HT_.out HW_.out (by kernel_rfl)) (fun _ _ _ h => h) (Or.inl ⟨by rfl, ?_⟩) hHeld ?_ ?_
          rotate_left
          ·rintro w' ⟨s0, s1, s2, s3, s4, s5, s6, s7⟩
           go_simp
           with_reducible rfl
          rotate_left
          ·simp only [Act.put, List.setIfInBounds_toArray, List.set_cons_zero, List.set_cons_succ, i64_w, i32_w]
           rfl
          refine pu 3 14 ?_
          refine take_ (i := 4) (N := some 15) (v := ?_) (a' := ?_) #[true, true, true, true, true, false, false, false, false, false, false, false, false, false, false, false, false, false, false, false, false, false, false, false, false, false, false] rfl rfl (take_ofW HT_.out HW_.out (by kernel_rfl)) (fun _ _ _ h => h) (Or.inl ⟨by rfl, ?_⟩) hHeld ?_ ?_
          rotate_left
          ·rintro w' ⟨s0, s1, s2, s3, s4, s5, s6, s7⟩
           go_simp
           with_reducible rfl
          rotate_left
          ·simp only [Act.put, List.setIfInBounds_toArray, List.set_cons_zero, List.set_cons_succ, i64_w, i32_w]
           rfl
          refine on1 5 16 (fun K hK => ?_)
          refine goes_ Try.func54 (by kernel_rfl) rfl #[.agg #[.string ((rd_T31 l0_1 x3_1).f0), .string ((rd_T31 l0_1 x3_1).f1)]] (by rfl) rfl rfl mq ?_
          with_reducible refine (spec_l2Entry.calls k1 ((rd_T31 l0_1 x3_1).f0) ((rd_T31 l0_1 x3_1).f1) true _ A5.out).mono ?_
          rintro e w17 ⟨rfl, hb⟩
          refine ⟨_, rfl, ?_⟩
          replace BK213 := am (blk_below (g := gb213) (o := .cells #[.slice A0_0 l0_0.length c0_0, .slice (some ad214) l0_1.length c0_1] 55 (0, 0)) (bq BK213.out) hb); replace HB := am (below_step (bel1 GE213.out) hb)
          (try clear hb)
          (try clear hb2)
          (try clear hk)
          (try clear hi)
          refine hK.out _ _ ⟨(blk_cell BK213.out 0).trans rfl, (blk_cell BK213.out 1).trans rfl, (kp HB.out hw214_0), (kp HB.out hw214_1), (kp HB.out hw216_0), (kp HB.out hw216_1), (kp HB.out hw217_0), (kp HB.out hw217_1)⟩ (fun hHeld => ?_)
          clear hK K
          refine norm_ (a' := ?_) ?_ ?_
          rotate_left
          ·show Act.put _ (some 16) _ = _
           simp only [Act.put, List.setIfInBounds_toArray, List.set_cons_zero, List.set_cons_succ, i64_w, i32_w]
           rfl
          refine pu 6 17 ?_
          refine pu 7 18 ?_
          refine pu 8 19 ?_
          refine pu 9 20 ?_
          refine pu 10 21 ?_
          refine pu 11 22 ?_
          refine pu 13 24 ?_
          refine pu 14 25 ?_
          refine pu 18 29 ?_
          refine pu 20 31 ?_
          refine take_ (i := 12) (N := some 23) (v := ?_) (a' := ?_) #[true, true, true, true, true, true, true, true, true, true, true, true, true, true, true, false, false, false, true, false, true, false, false, false, false, false, false] rfl rfl (take_ofW HT_.out HW_.out (by kernel_rfl)) (fun _ _ _ h => h) (Or.inl ⟨by rfl, ?_⟩) hHeld ?_ ?_
          rotate_left
          ·rintro w' ⟨s0, s1, s2, s3, s4, s5, s6, s7⟩
           go_simp
           with_reducible rfl
          rotate_left
          ·simp only [Act.put, List.setIfInBounds_toArray, List.set_cons_zero, List.set_cons_succ, i64_w, i32_w]
           rfl
          refine pu 15 26 ?_
          refine pu 16 27 ?_
          refine take_ (i := 17) (N := some 28) (v := ?_) (a' := ?_) #[true, true, true, true, true, true, true, true, true, true, true, true, true, true, true, true, true, true, true, false, true, false, false, false, false, false, false] rfl rfl (take_ofW HT_.out HW_.out (by kernel_rfl)) (fun _ _ _ h => h) (Or.inl ⟨by rfl, ?_⟩) hHeld ?_ ?_
          rotate_left
          ·rintro w' ⟨s0, s1, s2, s3, s4, s5, s6, s7⟩
           go_simp
           with_reducible rfl
          rotate_left
          ·simp only [Act.put, List.setIfInBounds_toArray, List.set_cons_zero, List.set_cons_succ, i64_w, i32_w]
           rfl
          refine take_ (i := 19) (N := some 30) (v := ?_) (a' := ?_) #[true, true, true, true, true, true, true, true, true, true, true, true, true, true, true, true, true, true, true, true, true, false, false, false, false, false, false] rfl rfl (take_ofW HT_.out HW_.out (by kernel_rfl)) (fun _ _ _ h => h) (Or.inl ⟨by rfl, ?_⟩) hHeld ?_ ?_
          rotate_left
          ·rintro w' ⟨s0, s1, s2, s3, s4, s5, s6, s7⟩
           go_simp
           with_reducible rfl
          rotate_left
          ·simp only [Act.put, List.setIfInBounds_toArray, List.set_cons_zero, List.set_cons_succ, i64_w, i32_w]
           rfl
          refine pu 21 32 ?_
          refine pu 22 33 ?_
          refine take_ (i := 23) (N := some 34) (v := ?_) (a' := ?_) #[true, true, true, true, true, true, true, true, true, true, true, true, true, true, true, true, true, true, true, true, true, true, true, true, false, false, false] rfl rfl (take_ofW HT_.out HW_.out (by kernel_rfl)) (fun _ _ _ h => h) (Or.inl ⟨by rfl, ?_⟩) hHeld ?_ ?_
          rotate_left
          ·rintro w' ⟨s0, s1, s2, s3, s4, s5, s6, s7⟩
           go_simp
           with_reducible rfl
          rotate_left
          ·simp only [Act.put, List.setIfInBounds_toArray, List.set_cons_zero, List.set_cons_succ, i64_w, i32_w]
           rfl
          refine pu 24 35 ?_
          refine pu 25 36 ?_
          refine pu 26 37 ?_
          refine done_ (done_of HT_.out (by kernel_rfl)) ?_
          try go_wp2
          go_ret
          exact ⟨b69_, bel1 GE213.out⟩
        ·rw [if_neg c10] at H
         exact absurd H (by simp)
       ·rw [if_neg c9] at H
        exact absurd H (by simp)
      ·rw [if_neg c7] at H; have c7b0 := decide_eq_false c7; clear c7
       have H' := am H
       clear H; have hcz18_0 := bc BK213.out 0; have hcz18_1 := bc BK213.out 1; have hfz18_0 := bf BK213.out 0; have hfz18_1 := bf BK213.out 1
       try go_wp2
       replace BK213 := am (blk_drew BK213.out); replace HB := am (below_drew1 HB.out)
       have p214 : 0 ≤ (x3_1 : Int) := of_decide_eq_true ad
       have q214 : x3_1 < (l0_1.length : Int) := of_decide_eq_true ad
       obtain ⟨ad214, e214, hx214_0, hx214_1⟩ := at_T31 HR0_1.out x3_1 p214 q214; have hw214_1 := hx214_1; have hw214_0 := hx214_0
       cases e214
       replace hx214_0 := kp HB.out hx214_0; replace hx214_1 := kp HB.out hx214_1; replace p214 := eq_true p214; replace q214 := eq_true q214
       refine st (n := 27) (S := fun w' => w'.cell? ⟨gb213, 0, none⟩ = some (.slice A0_0 l0_0.length c0_0) ∧ w'.cell? ⟨gb213, 1, none⟩ = some (.slice (some ad214) l0_1.length c0_1) ∧ w'.cell? (ad214.add ((x3_1).toNat * 2)) = some (.string ((rd_T31 l0_1 x3_1).f0)) ∧ w'.cell? ⟨(ad214.add ((x3_1).toNat * 2)).block, (ad214.add ((x3_1).toNat * 2)).off + 1, none⟩ = some (.string ((rd_T31 l0_1 x3_1).f1))) (ds := []) ⟨(blk_cell BK213.out 0).trans rfl, (blk_cell BK213.out 1).trans rfl, (kp HB.out hw214_0), (kp HB.out hw214_1)⟩ (fun hHeld => ?_); refine with_tabW spec_BookOk.tab4 spec_BookOk.bits4 (fun HT_ HW_ => ?_)
       generalize wr.drew = w19 at BK213 HB hx214_0 hx214_1 hHeld ⊢
       refine pu 0 11 ?_
       refine pu 2 13 ?_
       refine tk4 1 12 hHeld ?_
       refine pu 3 14 ?_
       refine tk4 4 15 hHeld ?_
       refine on1 5 16 (fun K hK => ?_)
       refine goes_ Try.func54 (by kernel_rfl) rfl #[.agg #[.string ((rd_T31 l0_1 x3_1).f0), .string ((rd_T31 l0_1 x3_1).f1)]] (by rfl) rfl rfl mq ?_
       with_reducible refine (spec_l2Entry.calls k1 ((rd_T31 l0_1 x3_1).f0) ((rd_T31 l0_1 x3_1).f1) true _ A5.out).mono ?_
       rintro e w20 ⟨rfl, hb⟩
       refine ⟨_, rfl, ?_⟩
       replace BK213 := am (blk_below (g := gb213) (o := .cells #[.slice A0_0 l0_0.length c0_0, .slice (some ad214) l0_1.length c0_1] 55 (0, 0)) (bq BK213.out) hb); replace HB := am (below_step (bel1 GE213.out) hb)
       (try clear hb)
       (try clear hb2)
       (try clear hk)
       (try clear hi)
       refine hK.out _ _ ⟨(blk_cell BK213.out 0).trans rfl, (blk_cell BK213.out 1).trans rfl, (kp HB.out hw214_0), (kp HB.out hw214_1)⟩ (fun hHeld => ?_)
       clear hK K
       refine norm_ (a' := ?_) ?_ ?_
       rotate_left
       ·show Act.put _ (some 16) _ = _
        simp only [Act.put, List.setIfInBounds_toArray, List.set_cons_zero, List.set_cons_succ, i64_w, i32_w]
        rfl
       refine pu 6 17 ?_
       refine pu 7 18 ?_
       refine pu 8 19 ?_
       refine pu 9 20 ?_
       refine pu 10 21 ?_
       refine puu 11 22 ?_
       refine puu 12 23 ?_
       refine puu 13 24 ?_
       refine puu 14 25 ?_
       refine puu 15 26 ?_
       refine puu 16 27 ?_
       refine puu 17 28 ?_
       refine puu 18 29 ?_
       refine puu 19 30 ?_
       refine puu 20 31 ?_
       refine puu 21 32 ?_
       refine puu 22 33 ?_
       refine puu 23 34 ?_
       refine puu 24 35 ?_
       refine pu 25 36 ?_
       refine pu 26 37 ?_
       refine done_ (done_of HT_.out (by kernel_rfl)) ?_
       try go_wp2
       go_roundg k1
       case measure => have := HK1.out; omega
       case rel => exact ⟨(wrap64 (x3_1 + 1)), sq, H', ⟨b62_⟩, ⟨bq BK213.out⟩, ⟨bel1 GE213.out⟩⟩
     ·replace c6 := Bool.eq_false_iff.mpr c6; subst c6
      have H1 : (some false) = some r := b19_
      replace H := H1; clear H1
      obtain rfl := Option.some.inj H; have hcz21_0 := bc BK213.out 0; have hcz21_1 := bc BK213.out 1; have hfz21_0 := bf BK213.out 0; have hfz21_1 := bf BK213.out 1
      try go_wp2
      replace BK213 := am (blk_drew BK213.out); replace HB := am (below_drew1 HB.out)
      have p214 : 0 ≤ (x3_1 : Int) := of_decide_eq_true ad
      have q214 : x3_1 < (l0_1.length : Int) := of_decide_eq_true ad
      obtain ⟨ad214, e214, hx214_0, hx214_1⟩ := at_T31 HR0_1.out x3_1 p214 q214; have hw214_1 := hx214_1; have hw214_0 := hx214_0
      cases e214
      replace hx214_0 := kp HB.out hx214_0; replace hx214_1 := kp HB.out hx214_1; replace p214 := eq_true p214; replace q214 := eq_true q214
      refine st (n := 27) (S := fun w' => w'.cell? ⟨gb213, 0, none⟩ = some (.slice A0_0 l0_0.length c0_0) ∧ w'.cell? ⟨gb213, 1, none⟩ = some (.slice (some ad214) l0_1.length c0_1) ∧ w'.cell? (ad214.add ((x3_1).toNat * 2)) = some (.string ((rd_T31 l0_1 x3_1).f0)) ∧ w'.cell? ⟨(ad214.add ((x3_1).toNat * 2)).block, (ad214.add ((x3_1).toNat * 2)).off + 1, none⟩ = some (.string ((rd_T31 l0_1 x3_1).f1))) (ds := []) ⟨(blk_cell BK213.out 0).trans rfl, (blk_cell BK213.out 1).trans rfl, (kp HB.out hw214_0), (kp HB.out hw214_1)⟩ (fun hHeld => ?_); refine with_tabW spec_BookOk.tab4 spec_BookOk.bits4 (fun HT_ HW_ => ?_)
      generalize wr.drew = w22 at BK213 HB hx214_0 hx214_1 hHeld ⊢
      refine pu 0 11 ?_
      refine pu 2 13 ?_
      refine tk4 1 12 hHeld ?_
      refine pu 3 14 ?_
      refine tk4 4 15 hHeld ?_
      refine on1 5 16 (fun K hK => ?_)
      refine goes_ Try.func54 (by kernel_rfl) rfl #[.agg #[.string ((rd_T31 l0_1 x3_1).f0), .string ((rd_T31 l0_1 x3_1).f1)]] (by rfl) rfl rfl mq ?_
      with_reducible refine (spec_l2Entry.calls k1 ((rd_T31 l0_1 x3_1).f0) ((rd_T31 l0_1 x3_1).f1) false _ A5.out).mono ?_
      rintro e w23 ⟨rfl, hb⟩
      refine ⟨_, rfl, ?_⟩
      replace BK213 := am (blk_below (g := gb213) (o := .cells #[.slice A0_0 l0_0.length c0_0, .slice (some ad214) l0_1.length c0_1] 55 (0, 0)) (bq BK213.out) hb); replace HB := am (below_step (bel1 GE213.out) hb)
      (try clear hb)
      (try clear hb2)
      (try clear hk)
      (try clear hi)
      refine hK.out _ _ ⟨(blk_cell BK213.out 0).trans rfl, (blk_cell BK213.out 1).trans rfl, (kp HB.out hw214_0), (kp HB.out hw214_1)⟩ (fun hHeld => ?_)
      clear hK K
      refine norm_ (a' := ?_) ?_ ?_
      rotate_left
      ·show Act.put _ (some 16) _ = _
       simp only [Act.put, List.setIfInBounds_toArray, List.set_cons_zero, List.set_cons_succ, i64_w, i32_w]
       rfl
      refine pu 6 17 ?_
      refine pu 7 18 ?_
      refine puu 8 19 ?_
      refine puu 9 20 ?_
      refine puu 10 21 ?_
      refine puu 11 22 ?_
      refine puu 12 23 ?_
      refine puu 13 24 ?_
      refine puu 14 25 ?_
      refine puu 15 26 ?_
      refine puu 16 27 ?_
      refine puu 17 28 ?_
      refine puu 18 29 ?_
      refine puu 19 30 ?_
      refine puu 20 31 ?_
      refine puu 21 32 ?_
      refine puu 22 33 ?_
      refine puu 23 34 ?_
      refine puu 24 35 ?_
      refine puu 25 36 ?_
      refine pu 26 37 ?_
      refine done_ (done_of HT_.out (by kernel_rfl)) ?_
      try go_wp2
      go_ret
      exact ⟨eq_, bel1 GE213.out⟩
    ·rw [if_neg c4] at H
     exact absurd H (by simp)
   ·rw [if_neg c3] at H; have c3b0 := decide_eq_false c3; clear c3; replace H := Option.bind_eq_some_iff.mp H; obtain ⟨t218, A240, H⟩ := H; replace H : (if t218 = true then (some (decide ((l0_1.length : Int) ≤ 24))) else (some false)) = some r := H; have A24 := Aside0.mk A240; clear A240
    by_cases c25 : t218 = true
    ·subst c25
     have H1 : (some (decide ((l0_1.length : Int) ≤ 24))) = some r := b34_
     replace H := H1; clear H1
     obtain rfl := Option.some.inj H; have hcz26_0 := bc BK213.out 0; have hcz26_1 := bc BK213.out 1; have hfz26_0 := bf BK213.out 0; have hfz26_1 := bf BK213.out 1
     go_wp2_with (first | ((with_reducible refine gate_callee (f := 53) rfl ?_); refine goesL_ (some 40) rfl rfl Try.func53 (by kernel_rfl) rfl #[.slice A0_0 l0_0.length c0_0] rfl mq ?_; (with_reducible refine (spec_l2Affixes.calls k1 _ _ l0_0 true _ ?side1 ?side2 A24.out).mono ?_); (case side1 => exact cq (Kd.C_below HR0_0.out HB.out)); (case side2 => exact HC0_0.out); rintro e w27 ⟨rfl, hb⟩; refine ⟨_, rfl, ?_⟩; replace BK213 := am (blk_below (g := gb213) (o := .cells #[.slice A0_0 l0_0.length c0_0, .slice A0_1 l0_1.length c0_1] 55 (0, 0)) (bq BK213.out) hb); replace HB := am (below_step (bel1 GE213.out) hb); (try clear hb); (try clear hb2); (try clear hk); (try clear hi); have hcz28_0 := bc BK213.out 0; have hcz28_1 := bc BK213.out 1; have hfz28_0 := bf BK213.out 0; have hfz28_1 := bf BK213.out 1))
     go_ret
     exact ⟨eq_, bel1 GE213.out⟩
    ·replace c25 := Bool.eq_false_iff.mpr c25; subst c25
     have H1 : (some false) = some r := b19_
     replace H := H1; clear H1
     obtain rfl := Option.some.inj H; have hcz29_0 := bc BK213.out 0; have hcz29_1 := bc BK213.out 1; have hfz29_0 := bf BK213.out 0; have hfz29_1 := bf BK213.out 1
     go_wp2_with (first | ((with_reducible refine gate_callee (f := 53) rfl ?_); refine goesL_ (some 40) rfl rfl Try.func53 (by kernel_rfl) rfl #[.slice A0_0 l0_0.length c0_0] rfl mq ?_; (with_reducible refine (spec_l2Affixes.calls k1 _ _ l0_0 false _ ?side1 ?side2 A24.out).mono ?_); (case side1 => exact cq (Kd.C_below HR0_0.out HB.out)); (case side2 => exact HC0_0.out); rintro e w30 ⟨rfl, hb⟩; refine ⟨_, rfl, ?_⟩; replace BK213 := am (blk_below (g := gb213) (o := .cells #[.slice A0_0 l0_0.length c0_0, .slice A0_1 l0_1.length c0_1] 55 (0, 0)) (bq BK213.out) hb); replace HB := am (below_step (bel1 GE213.out) hb); (try clear hb); (try clear hb2); (try clear hk); (try clear hi)))
     go_ret
     exact ⟨eq_, bel1 GE213.out⟩

end Go.Proofs.Ytedfcehhgbeibaa.QFnBookKnows
