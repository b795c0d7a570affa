import Derived.Test.YtfpmfaelodfecaaQFnExactGuessesx0
import Derived.Test.YtfpmfaelodfecaaVMSh2
namespace Go.Proofs.Ytfpmfaelodfecaa.QFnExactGuesses
open Go.RowKit Go.Proofs.YtfpmfaelodfecaaW.PrintWords Go.Proofs.YtfpmfaelodfecaaW.PrintLast Go.Proofs.YtfpmfaelodfecaaW.PrintMore Go.Proofs.Ytfpmfaelodfecaa.Sh
attribute [local go_sem] max2_int min2_int max_two min_two max_three min_three max_four min_four   -- for this text's walks alone
set_option linter.unusedVariables false
set_option linter.unusedSimpArgs false
-- shrunk

/-! ### spec_l4Put: function 104 -/
mutual
def spec_l4Put.l0 : Nat → List (S36) → Int → ByteArray → Int → Option ((List (S36)))
 | 0, _, _, _, _ => none
 | k + 1, x0, x5, x141000, x141001 => if x5 < (x0.length : Int) then (if 0 ≤ x5 then (if ((rd_T36 x0 x5).f1) < x141001 then (spec_l4Put.j1 k x0 x5 true x141000 x141001) else (if ((rd_T36 x0 x5).f1) = x141001 then (spec_l4Put.j1 k x0 x5 (Op.bytesLess (((rd_T36 x0 x5).f0).toList) x141000.toList) x141000 x141001) else (spec_l4Put.j1 k x0 x5 false x141000 x141001))) else (none)) else (spec_l4Put.j1 k x0 x5 false x141000 x141001)
def spec_l4Put.j1 : Nat → List (S36) → Int → Bool → ByteArray → Int → Option ((List (S36)))
 | 0, _, _, _, _, _ => none
 | k + 1, x0, x5, x39, x141000, x141001 => if x39 = true then (spec_l4Put.l0 k x0 (wrap64 (x5 + 1)) x141000 x141001) else ((some (([] : List (S36)) : List (S36))).bind fun y144 => (if 0 ≤ x5 then (if x5 ≤ (x0.length : Int) then ((some (x0.take (x5 : Int).toNat : List (S36))).bind fun y147 => (if y144.length + y147.length < 5864062014805 then ((some (y144 ++ y147 : List (S36))).bind fun y151 => ((some (([(⟨x141000, x141001⟩ : S36)] : List (S36)) : List (S36))).bind fun y154 => (if y151.length + y154.length < 5864062014805 then ((some (y151 ++ y154 : List (S36))).bind fun y157 => ((some (x0.drop (x5 : Int).toNat : List (S36))).bind fun y160 => (if y157.length + y160.length < 5864062014805 then (some (y157 ++ y160)) else (none)))) else (none)))) else (none))) else (none)) else (none)))
end
def spec_l4Put.f (k : Nat) (l0 : List (S36)) (a1_0 : ByteArray) (a1_1 : Int) : Option ((List (S36))) := spec_l4Put.l0 k l0 0 a1_0 a1_1
def spec_l4Put.T2 : Bool × List (List Nat × List Nat) := (true, [([], []), ([], []), ([1], [1]), ([0, 2], [0, 2]), ([3], [3]), ([4], [4]), ([4], [4]), ([5, 6, 4], [4, 5, 6]), ([7, 4], [4, 7]), ([8, 4], [4, 8]), ([4], [4]), ([10, 4], [4, 10]), ([9, 11, 4], [4, 9, 11]), ([12, 4, 4], [4, 12]), ([13], [13]), ([13], [13]), ([14, 15, 13], [13, 14, 15]), ([16, 13], [13, 16]), ([17, 13], [13, 17]), ([13], [13]), ([19, 13], [13, 19]), ([18, 20, 13], [13, 18, 20]), ([21, 13, 13], [13, 21]), ([22], [22]), ([22], [22]), ([23, 24, 22], [22, 23, 24]), ([25, 22], [22, 25]), ([26, 22], [22, 26]), ([22], [22]), ([28, 22], [22, 28]), ([27, 29, 22], [22, 27, 29]), ([22, 30, 13], [13, 22, 30]), ([13, 31, 4], [4, 13, 31]), ([4, 32], [4, 32])])
def spec_l4Put.B2 : List Nat := [0, 0, 2, 7, 15, 31, 31, 127, 255, 511, 31, 1055, 4095, 8191, 16383, 16383, 65535, 131071, 262143, 16383, 540671, 2097151, 4194303, 8388607, 8388607, 33554431, 67108863, 134217727, 8388607, 276824063, 1073741823, 2147483647, 4294967295, 8589934591]
theorem spec_l4Put.tab2 : rtab .any (opsOf Try.f104 2) = spec_l4Put.T2 := by kernel_rfl
theorem spec_l4Put.bits2 : waitsOk spec_l4Put.T2.2 spec_l4Put.B2 = true := by kernel_rfl
def spec_l4Put.T4 : Bool × List (List Nat × List Nat) := (true, [([], []), ([], []), ([], []), ([1, 2], [1, 2]), ([0, 3], [0, 3]), ([], []), ([5], [5]), ([4, 6, 4], [4, 6]), ([], []), ([], []), ([8, 9], [8, 9]), ([7, 10, 7], [7, 10]), ([11, 11, 0, 1, 2, 3, 4, 5, 6, 7, 8, 9, 10, 11], [11])])
def spec_l4Put.B4 : List Nat := [0, 0, 0, 6, 15, 0, 32, 127, 0, 0, 768, 2047, 4095]
theorem spec_l4Put.tab4 : rtab .any (opsOf Try.f104 4) = spec_l4Put.T4 := by kernel_rfl
theorem spec_l4Put.bits4 : waitsOk spec_l4Put.T4.2 spec_l4Put.B4 = true := by kernel_rfl
set_option maxHeartbeats 8000000 in
set_option maxRecDepth 100000 in
theorem spec_l4Put.calls (k : Nat) (A0 : Option Addr) (c0 : Nat) (l0 : List (S36)) (a1_0 : ByteArray) (a1_1 : Int) (r : List (S36)) (w : World) (hr0 : Kd.C k36 w A0 l0.length l0) (hc0 : l0.length ≤ c0) (h : spec_l4Put.f k l0 a1_0 a1_1 = some r) :
  Calls Try.prog 104 #[.slice A0 l0.length c0, .agg #[.string a1_0, .int .i64 a1_1]] w fun e w' => ∃ v0_ : Value, e = .returned (v0_) ∧ Kd.R k36 36 w' w.heap.size (fun _ => True) v0_ r ∧ Below w.heap.size w w' := by
 have hu36 := Try.underlying36; have HR0 := am hr0; have HC0 := am hc0; clear hr0 hc0; have HB := am (Below.refl w.heap.size w)
 have H : (spec_l4Put.l0 k l0 0 a1_0 a1_1) = some r := h
 clear h
 have H' := am H
 clear H; go_enter Try.func104, Try.ntmps104
 go_wp2_with (first | ((with_reducible refine gate_dst (N := 3) rfl ?_); refine bx 3 (cs := #[.string a1_0, .int .i64 a1_1]) (t := 36) ?_; intro gb140 hg w3 hbox hb; have BK140 := am (hbox); have GW140 := am ((b30_ : w.heap.size ≤ gb140)); have GE140 := am ((b30_ : w.heap.size ≤ gb140)); replace HB := am (below_step bel hb); clear hb hbox hg))
 go_loopg [5] k (fun kq v5 w' => ∃ (x5_1 : Int), v5 = .int .i64 x5_1 ∧ Aside0 (spec_l4Put.l0 kq l0 x5_1 a1_0 a1_1 = some r) ∧ Aside0 (kq ≤ k) ∧ Aside0 (w'.heap[gb140]? = some (.cells #[.string a1_0, .int .i64 a1_1] 36 (0, 0))) ∧ Aside0 (Below w.heap.size w w'))
 case atStart => exact ⟨(0), sq, H', ⟨Nat.le_refl _⟩, ⟨bq BK140.out⟩, ⟨bel1 GE140.out⟩⟩
 case round =>
  clear H'; (try clear c1); (try clear p2); obtain ⟨x5_1, rfl, HA, HK1, BK140, HB⟩ := hrel
  cases gk with
  | zero => exact absurd HA.out (by simp [spec_l4Put.l0])
  | succ k1 =>
   have H := HA.out; clear HA
   simp only [spec_l4Put.l0] at H
   have HC4 := am H; clear H
   go_upto_region 2 with (fail)
   go_cut [39] (fun v39 wc => ∃ (kq : Nat) (x39_3 : Bool), v39 = .bool x39_3 ∧ Aside0 (spec_l4Put.j1 kq l0 x5_1 x39_3 a1_0 a1_1 = some r) ∧ Aside0 (kq ≤ k1) ∧ Aside0 (wc.heap[gb140]? = some (.cells #[.string a1_0, .int .i64 a1_1] 36 (0, 0))) ∧ Aside0 (Below w.heap.size w wc))
   case first =>
    have H := HC4.out; clear HC4
    by_cases c5 : x5_1 < (l0.length : Int)
    ·rw [if_pos c5] at H; have c5b0 := decide_eq_true c5; clear c5
     (first | rw [c5b0] | (simp only [i64_w, i32_w]; rw [c5b0]) | skip)
     by_cases c6 : 0 ≤ x5_1
     ·rw [if_pos c6] at H; have c6b0 := decide_eq_true c6; clear c6
      by_cases c7 : ((rd_T36 l0 x5_1).f1) < a1_1
      ·rw [if_pos c7] at H; have c7b0 := decide_eq_true c7; clear c7
       have H' := am H
       clear H
       try go_wp2
       replace BK140 := am (blk_drew BK140.out); replace HB := am (below_drew1 HB.out)
       have p141 : 0 ≤ (x5_1 : Int) := of_decide_eq_true ad
       have q141 : x5_1 < (l0.length : Int) := of_decide_eq_true ad
       obtain ⟨ad141, e141, hx141_0, hx141_1⟩ := at_T36 HR0.out x5_1 p141 q141; have hw141_1 := hx141_1; have hw141_0 := hx141_0
       cases e141
       replace hx141_0 := kp HB.out hx141_0; replace hx141_1 := kp HB.out hx141_1; replace p141 := eq_true p141; replace q141 := eq_true q141
       refine st (n := 34) (S := fun w' => w'.cell? ⟨gb140, 0, none⟩ = some (.string a1_0) ∧ w'.cell? ⟨gb140, 1, none⟩ = some (.int .i64 a1_1) ∧ w'.cell? (ad141.add ((x5_1).toNat * 2)) = some (.string ((rd_T36 l0 x5_1).f0)) ∧ w'.cell? ⟨(ad141.add ((x5_1).toNat * 2)).block, (ad141.add ((x5_1).toNat * 2)).off + 1, none⟩ = some (.int .i64 ((rd_T36 l0 x5_1).f1))) (ds := []) ⟨(blk_cell BK140.out 0).trans rfl, (blk_cell BK140.out 1).trans rfl, (kp HB.out hw141_0), (kp HB.out hw141_1)⟩ (fun hHeld => ?_); refine with_tabW spec_l4Put.tab2 spec_l4Put.bits2 (fun HT_ HW_ => ?_)
       generalize wr.drew = w8 at BK140 HB hx141_0 hx141_1 hHeld ⊢
       refine pu 0 6 ?_
       refine pu 1 7 ?_
       refine pu 2 8 ?_
       refine pu 3 9 ?_
       refine pu 4 10 ?_
       refine pu 5 11 ?_
       refine pu 6 12 ?_
       refine pu 7 13 ?_
       refine pu 8 14 ?_
       refine pu 10 16 ?_
       refine tk4 9 15 hHeld ?_
       refine tk4 11 17 hHeld ?_
       refine pu 12 18 ?_
       refine pu 13 19 ?_
       refine puu 14 20 ?_
       refine puu 15 21 ?_
       refine puu 16 22 ?_
       refine puu 17 23 ?_
       refine puu 18 24 ?_
       refine puu 19 25 ?_
       refine puu 20 26 ?_
       refine puu 21 27 ?_
       refine puu 22 28 ?_
       refine puu 23 29 ?_
       refine puu 24 30 ?_
       refine puu 25 31 ?_
       refine puu 26 32 ?_
       refine puu 27 33 ?_
       refine puu 28 34 ?_
       refine puu 29 35 ?_
       refine puu 30 36 ?_
       refine puu 31 37 ?_
       refine pu 32 38 ?_
       refine pu 33 39 ?_
       refine done_ (done_of HT_.out (by kernel_rfl)) ?_
       try go_wp2
       go_meet
       case rel => exact ⟨_, (true), sq, H', ⟨b38_⟩, ⟨bq BK140.out⟩, ⟨bel1 GE140.out⟩⟩
      ·rw [if_neg c7] at H; have c7b0 := decide_eq_false c7; clear c7
       by_cases c9 : ((rd_T36 l0 x5_1).f1) = a1_1
       ·rw [if_pos c9] at H
        have c9b0 : (((rd_T36 l0 x5_1).f1) == a1_1) = true := beq_iff_eq.mpr c9
        have c9b1 : (((rd_T36 l0 x5_1).f1) != a1_1) = false := bne_eq_false_iff_eq.mpr c9
        clear c9
        have H' := am H
        clear H
        try go_wp2
        replace BK140 := am (blk_drew BK140.out); replace HB := am (below_drew1 HB.out)
        have p141 : 0 ≤ (x5_1 : Int) := of_decide_eq_true ad
        have q141 : x5_1 < (l0.length : Int) := of_decide_eq_true ad
        obtain ⟨ad141, e141, hx141_0, hx141_1⟩ := at_T36 HR0.out x5_1 p141 q141; have hw141_1 := hx141_1; have hw141_0 := hx141_0
        cases e141
        replace hx141_0 := kp HB.out hx141_0; replace hx141_1 := kp HB.out hx141_1; replace p141 := eq_true p141; replace q141 := eq_true q141
        have p142 : 0 ≤ (x5_1 : Int) := of_decide_eq_true ad
        have q142 : x5_1 < (l0.length : Int) := of_decide_eq_true ad
        obtain ⟨ad142, e142, hx142_0, hx142_1⟩ := at_T36 HR0.out x5_1 p142 q142; have hw142_1 := hx142_1; have hw142_0 := hx142_0
        obtain rfl : ad141 = ad142 := (by injection e142)
        replace hx142_0 := kp HB.out hx142_0; replace hx142_1 := kp HB.out hx142_1; replace p142 := eq_true p142; replace q142 := eq_true q142
        have p143 : 0 ≤ (x5_1 : Int) := of_decide_eq_true ad
        have q143 : x5_1 < (l0.length : Int) := of_decide_eq_true ad
        obtain ⟨ad143, e143, hx143_0, hx143_1⟩ := at_T36 HR0.out x5_1 p143 q143; have hw143_1 := hx143_1; have hw143_0 := hx143_0
        obtain rfl : ad141 = ad143 := (by injection e143)
        replace hx143_0 := kp HB.out hx143_0; replace hx143_1 := kp HB.out hx143_1; replace p143 := eq_true p143; replace q143 := eq_true q143
        refine st (n := 34) (S := fun w' => w'.cell? ⟨gb140, 0, none⟩ = some (.string a1_0) ∧ w'.cell? ⟨gb140, 1, none⟩ = some (.int .i64 a1_1) ∧ w'.cell? (ad141.add ((x5_1).toNat * 2)) = some (.string ((rd_T36 l0 x5_1).f0)) ∧ w'.cell? ⟨(ad141.add ((x5_1).toNat * 2)).block, (ad141.add ((x5_1).toNat * 2)).off + 1, none⟩ = some (.int .i64 ((rd_T36 l0 x5_1).f1)) ∧ w'.cell? (ad141.add ((x5_1).toNat * 2)) = some (.string ((rd_T36 l0 x5_1).f0)) ∧ w'.cell? ⟨(ad141.add ((x5_1).toNat * 2)).block, (ad141.add ((x5_1).toNat * 2)).off + 1, none⟩ = some (.int .i64 ((rd_T36 l0 x5_1).f1)) ∧ w'.cell? (ad141.add ((x5_1).toNat * 2)) = some (.string ((rd_T36 l0 x5_1).f0)) ∧ w'.cell? ⟨(ad141.add ((x5_1).toNat * 2)).block, (ad141.add ((x5_1).toNat * 2)).off + 1, none⟩ = some (.int .i64 ((rd_T36 l0 x5_1).f1))) (ds := []) ⟨(blk_cell BK140.out 0).trans rfl, (blk_cell BK140.out 1).trans rfl, (kp HB.out hw141_0), (kp HB.out hw141_1), (kp HB.out hw142_0), (kp HB.out hw142_1), (kp HB.out hw143_0), (kp HB.out hw143_1)⟩ (fun hHeld => ?_); refine with_tabW spec_l4Put.tab2 spec_l4Put.bits2 (fun HT_ HW_ => ?_)
        generalize wr.drew = w10 at BK140 HB hx141_0 hx141_1 hx142_0 hx142_1 hx143_0 hx143_1 hHeld ⊢
        refine pu 0 6 ?_
        refine pu 1 7 ?_
        refine pu 2 8 ?_
        refine pu 3 9 ?_
        refine pu 4 10 ?_
        refine pu 5 11 ?_
        refine pu 6 12 ?_
        refine pu 7 13 ?_
        refine pu 8 14 ?_
        refine pu 10 16 ?_
        refine take_ (i := 9) (N := some 15) (v := ?_) (a' := ?_) #[true, true, true, true, true, true, true, true, true, true, true, false, false, false, false, false, false, false, false, false, false, false, false, false, false, false, false, false, false, false, false, false, false, false] rfl rfl (take_ofW HT_.out HW_.out (by kernel_rfl)) (fun _ _ _ h => h) (Or.inl ⟨by rfl, ?_⟩) hHeld ?_ ?_
        rotate_left
        ·rintro w' ⟨s0, s1, s2, s3, s4, s5, s6, s7⟩
         go_simp
         with_reducible rfl
        rotate_left
        ·simp only [Act.put, List.setIfInBounds_toArray, List.set_cons_zero, List.set_cons_succ, i64_w, i32_w]
         rfl
        refine take_ (i := 11) (N := some 17) (v := ?_) (a' := ?_) #[true, true, true, true, true, true, true, true, true, true, true, true, false, false, false, false, false, false, false, false, false, false, false, false, false, false, false, false, false, false, false, false, false, false] rfl rfl (take_ofW HT_.out HW_.out (by kernel_rfl)) (fun _ _ _ h => h) (Or.inl ⟨by rfl, ?_⟩) hHeld ?_ ?_
        rotate_left
        ·rintro w' ⟨s0, s1, s2, s3, s4, s5, s6, s7⟩
         go_simp
         with_reducible rfl
        rotate_left
        ·simp only [Act.put, List.setIfInBounds_toArray, List.set_cons_zero, List.set_cons_succ, i64_w, i32_w]
         rfl
        refine pu 12 18 ?_
        refine pu 13 19 ?_
        refine pu 14 20 ?_
        refine pu 15 21 ?_
        refine pu 16 22 ?_
        refine pu 17 23 ?_
        refine pu 19 25 ?_
        refine take_ (i := 18) (N := some 24) (v := ?_) (a' := ?_) #[true, true, true, true, true, true, true, true, true, true, true, true, true, true, true, true, true, true, true, true, false, false, false, false, false, false, false, false, false, false, false, false, false, false] rfl rfl (take_ofW HT_.out HW_.out (by kernel_rfl)) (fun _ _ _ h => h) (Or.inl ⟨by rfl, ?_⟩) hHeld ?_ ?_
        rotate_left
        ·rintro w' ⟨s0, s1, s2, s3, s4, s5, s6, s7⟩
         go_simp
         with_reducible rfl
        rotate_left
        ·simp only [Act.put, List.setIfInBounds_toArray, List.set_cons_zero, List.set_cons_succ, i64_w, i32_w]
         rfl
        refine take_ (i := 20) (N := some 26) (v := ?_) (a' := ?_) #[true, true, true, true, true, true, true, true, true, true, true, true, true, true, true, true, true, true, true, true, true, false, false, false, false, false, false, false, false, false, false, false, false, false] rfl rfl (take_ofW HT_.out HW_.out (by kernel_rfl)) (fun _ _ _ h => h) (Or.inl ⟨by rfl, ?_⟩) hHeld ?_ ?_
        rotate_left
        ·rintro w' ⟨s0, s1, s2, s3, s4, s5, s6, s7⟩
         go_simp
         with_reducible rfl
        rotate_left
        ·simp only [Act.put, List.setIfInBounds_toArray, List.set_cons_zero, List.set_cons_succ, i64_w, i32_w]
         rfl
        refine pu 21 27 ?_
        refine pu 22 28 ?_
        refine pu 23 29 ?_
        refine pu 24 30 ?_
        refine pu 25 31 ?_
        refine pu 26 32 ?_
        refine pu 28 34 ?_
        refine take_ (i := 27) (N := some 33) (v := ?_) (a' := ?_) #[true, true, true, true, true, true, true, true, true, true, true, true, true, true, true, true, true, true, true, true, true, true, true, true, true, true, true, true, true, false, false, false, false, false] rfl rfl (take_ofW HT_.out HW_.out (by kernel_rfl)) (fun _ _ _ h => h) (Or.inl ⟨by rfl, ?_⟩) hHeld ?_ ?_
        rotate_left
        ·rintro w' ⟨s0, s1, s2, s3, s4, s5, s6, s7⟩
         go_simp
         with_reducible rfl
        rotate_left
        ·simp only [Act.put, List.setIfInBounds_toArray, List.set_cons_zero, List.set_cons_succ, i64_w, i32_w]
         rfl
        refine take_ (i := 29) (N := some 35) (v := ?_) (a' := ?_) #[true, true, true, true, true, true, true, true, true, true, true, true, true, true, true, true, true, true, true, true, true, true, true, true, true, true, true, true, true, true, false, false, false, false] rfl rfl (take_ofW HT_.out HW_.out (by kernel_rfl)) (fun _ _ _ h => h) (Or.inl ⟨by rfl, ?_⟩) hHeld ?_ ?_
        rotate_left
        ·rintro w' ⟨s0, s1, s2, s3, s4, s5, s6, s7⟩
         go_simp
         with_reducible rfl
        rotate_left
        ·simp only [Act.put, List.setIfInBounds_toArray, List.set_cons_zero, List.set_cons_succ, i64_w, i32_w]
         rfl
        refine pu 30 36 ?_
        refine pu 31 37 ?_
        refine pu 32 38 ?_
        refine pu 33 39 ?_
        refine done_ (done_of HT_.out (by kernel_rfl)) ?_
        try go_wp2
        go_meet
        case rel => exact ⟨_, ((Op.bytesLess (((rd_T36 l0 x5_1).f0).toList) a1_0.toList)), sq, H', ⟨b38_⟩, ⟨bq BK140.out⟩, ⟨bel1 GE140.out⟩⟩
       ·rw [if_neg c9] at H
        have c9b0 : (((rd_T36 l0 x5_1).f1) == a1_1) = false := beq_eq_false_iff_ne.mpr c9
        have c9b1 : (((rd_T36 l0 x5_1).f1) != a1_1) = true := bne_iff_ne.mpr c9
        have H' := am H
        clear H
        try go_wp2
        replace BK140 := am (blk_drew BK140.out); replace HB := am (below_drew1 HB.out)
        have p141 : 0 ≤ (x5_1 : Int) := of_decide_eq_true ad
        have q141 : x5_1 < (l0.length : Int) := of_decide_eq_true ad
        obtain ⟨ad141, e141, hx141_0, hx141_1⟩ := at_T36 HR0.out x5_1 p141 q141; have hw141_1 := hx141_1; have hw141_0 := hx141_0
        cases e141
        replace hx141_0 := kp HB.out hx141_0; replace hx141_1 := kp HB.out hx141_1; replace p141 := eq_true p141; replace q141 := eq_true q141
        have p142 : 0 ≤ (x5_1 : Int) := of_decide_eq_true ad
        have q142 : x5_1 < (l0.length : Int) := of_decide_eq_true ad
        obtain ⟨ad142, e142, hx142_0, hx142_1⟩ := at_T36 HR0.out x5_1 p142 q142; have hw142_1 := hx142_1; have hw142_0 := hx142_0
        obtain rfl : ad141 = ad142 := (by injection e142)
        replace hx142_0 := kp HB.out hx142_0; replace hx142_1 := kp HB.out hx142_1; replace p142 := eq_true p142; replace q142 := eq_true q142
        refine st (n := 34) (S := fun w' => w'.cell? ⟨gb140, 0, none⟩ = some (.string a1_0) ∧ w'.cell? ⟨gb140, 1, none⟩ = some (.int .i64 a1_1) ∧ w'.cell? (ad141.add ((x5_1).toNat * 2)) = some (.string ((rd_T36 l0 x5_1).f0)) ∧ w'.cell? ⟨(ad141.add ((x5_1).toNat * 2)).block, (ad141.add ((x5_1).toNat * 2)).off + 1, none⟩ = some (.int .i64 ((rd_T36 l0 x5_1).f1)) ∧ w'.cell? (ad141.add ((x5_1).toNat * 2)) = some (.string ((rd_T36 l0 x5_1).f0)) ∧ w'.cell? ⟨(ad141.add ((x5_1).toNat * 2)).block, (ad141.add ((x5_1).toNat * 2)).off + 1, none⟩ = some (.int .i64 ((rd_T36 l0 x5_1).f1))) (ds := []) ⟨(blk_cell BK140.out 0).trans rfl, (blk_cell BK140.out 1).trans rfl, (kp HB.out hw141_0), (kp HB.out hw141_1), (kp HB.out hw142_0), (kp HB.out hw142_1)⟩ (fun hHeld => ?_); refine with_tabW spec_l4Put.tab2 spec_l4Put.bits2 (fun HT_ HW_ => ?_)
        generalize wr.drew = w11 at BK140 HB hx141_0 hx141_1 hx142_0 hx142_1 hHeld ⊢
        refine pu 0 6 ?_
        refine pu 1 7 ?_
        refine pu 2 8 ?_
        refine pu 3 9 ?_
        refine pu 4 10 ?_
        refine pu 5 11 ?_
        refine pu 6 12 ?_
        refine pu 7 13 ?_
        refine pu 8 14 ?_
        refine pu 10 16 ?_
        refine tk6 9 15 hHeld ?_
        refine tk6 11 17 hHeld ?_
        refine pu 12 18 ?_
        refine pu 13 19 ?_
        refine pu 14 20 ?_
        refine pu 15 21 ?_
        refine pu 16 22 ?_
        refine pu 17 23 ?_
        refine pu 19 25 ?_
        refine tk6 18 24 hHeld ?_
        refine tk6 20 26 hHeld ?_
        refine pu 21 27 ?_
        refine pu 22 28 ?_
        refine puu 23 29 ?_
        refine puu 24 30 ?_
        refine puu 25 31 ?_
        refine puu 26 32 ?_
        refine puu 27 33 ?_
        refine puu 28 34 ?_
        refine puu 29 35 ?_
        refine puu 30 36 ?_
        refine pu 31 37 ?_
        refine pu 32 38 ?_
        refine pu 33 39 ?_
        refine done_ (done_of HT_.out (by kernel_rfl)) ?_
        try go_wp2
        go_meet
        case rel => exact ⟨_, (false), sq, H', ⟨b38_⟩, ⟨bq BK140.out⟩, ⟨bel1 GE140.out⟩⟩
     ·rw [if_neg c6] at H
      exact absurd H (by simp)
    ·rw [if_neg c5] at H; have c5b0 := decide_eq_false c5; clear c5
     (first | rw [c5b0] | (simp only [i64_w, i32_w]; rw [c5b0]) | skip)
     have H' := am H
     clear H
     try go_wp2
     replace BK140 := am (blk_drew BK140.out); replace HB := am (below_drew1 HB.out)
     refine st (n := 34) (S := fun w' => True) (ds := []) trivial (fun hHeld => ?_); refine with_tabW spec_l4Put.tab2 spec_l4Put.bits2 (fun HT_ HW_ => ?_)
     generalize wr.drew = w12 at BK140 HB hHeld ⊢
     refine pu 0 6 ?_
     refine pu 1 7 ?_
     refine pu 2 8 ?_
     refine pu 3 9 ?_
     refine pu 4 10 ?_
     refine puu 5 11 ?_
     refine puu 6 12 ?_
     refine puu 7 13 ?_
     refine puu 8 14 ?_
     refine puu 9 15 ?_
     refine puu 10 16 ?_
     refine puu 11 17 ?_
     refine puu 12 18 ?_
     refine puu 13 19 ?_
     refine puu 14 20 ?_
     refine puu 15 21 ?_
     refine puu 16 22 ?_
     refine puu 17 23 ?_
     refine puu 18 24 ?_
     refine puu 19 25 ?_
     refine puu 20 26 ?_
     refine puu 21 27 ?_
     refine puu 22 28 ?_
     refine puu 23 29 ?_
     refine puu 24 30 ?_
     refine puu 25 31 ?_
     refine puu 26 32 ?_
     refine puu 27 33 ?_
     refine puu 28 34 ?_
     refine puu 29 35 ?_
     refine puu 30 36 ?_
     refine puu 31 37 ?_
     refine puu 32 38 ?_
     refine pu 33 39 ?_
     refine done_ (done_of HT_.out (by kernel_rfl)) ?_
     try go_wp2
     go_meet
     case rel => exact ⟨_, (false), sq, H', ⟨b38_⟩, ⟨bq BK140.out⟩, ⟨bel1 GE140.out⟩⟩
   case rest =>
    clear HC4; (try clear p1); (try clear q1); (try clear hx1); (try clear p2); (try clear c5); (try clear c5b0); (try clear c6); (try clear c9); (try clear c9b0); (try clear c9b1); (try clear hx141_0); (try clear hx141_1); (try clear hx142_0); (try clear hx142_1); (try clear p141); (try clear p142); (try clear q141); (try clear q142); obtain ⟨kq, x39_3, rfl, HA, HJ3, BK140, HB⟩ := hcut
    cases kq with
    | zero => exact absurd HA.out (by simp [spec_l4Put.j1])
    | succ kj3 =>
     have H := HA.out; clear HA
     simp only [spec_l4Put.j1] at H
     by_cases c13 : x39_3 = true
     ·subst c13
      have H1 : (spec_l4Put.l0 kj3 l0 (wrap64 (x5_1 + 1)) a1_0 a1_1) = some r := b16_
      replace H := H1; clear H1
      have H' := am H
      clear H; go_wp2
      go_roundg kj3
      case measure => have := HK1.out; have := HJ3.out; omega
      case rel => exact ⟨(wrap64 (x5_1 + 1)), sq, H', ⟨by have := HK1.out; have := HJ3.out; omega⟩, ⟨bq BK140.out⟩, ⟨bel1 GE140.out⟩⟩
     ·replace c13 := Bool.eq_false_iff.mpr c13; subst c13
      have H1 : ((some (([] : List (S36)) : List (S36))).bind fun y144 => (if 0 ≤ x5_1 then (if x5_1 ≤ (l0.length : Int) then ((some (l0.take (x5_1 : Int).toNat : List (S36))).bind fun y147 => (if y144.length + y147.length < 5864062014805 then ((some (y144 ++ y147 : List (S36))).bind fun y151 => ((some (([(⟨a1_0, a1_1⟩ : S36)] : List (S36)) : List (S36))).bind fun y154 => (if y151.length + y154.length < 5864062014805 then ((some (y151 ++ y154 : List (S36))).bind fun y157 => ((some (l0.drop (x5_1 : Int).toNat : List (S36))).bind fun y160 => (if y157.length + y160.length < 5864062014805 then (some (y157 ++ y160)) else (none)))) else (none)))) else (none))) else (none)) else (none))) = some r := b5_
      replace H := H1; clear H1
      obtain ⟨y144, hy144⟩ : ∃ y_ : List (S36), y_ = (([] : List (S36))) := ⟨_, rfl⟩
      replace H : (if 0 ≤ x5_1 then (if x5_1 ≤ (l0.length : Int) then ((some (l0.take (x5_1 : Int).toNat : List (S36))).bind fun y147 => (if y144.length + y147.length < 5864062014805 then ((some (y144 ++ y147 : List (S36))).bind fun y151 => ((some (([(⟨a1_0, a1_1⟩ : S36)] : List (S36)) : List (S36))).bind fun y154 => (if y151.length + y154.length < 5864062014805 then ((some (y151 ++ y154 : List (S36))).bind fun y157 => ((some (l0.drop (x5_1 : Int).toNat : List (S36))).bind fun y160 => (if y157.length + y160.length < 5864062014805 then (some (y157 ++ y160)) else (none)))) else (none)))) else (none))) else (none)) else (none)) = some r := by first | (rw [hy144]; with_reducible exact H) | (have H2_ := (Option.bind_some _ _).symm.trans H; rw [hy144]; with_reducible exact H2_) | (have H2_ := (Option.bind_some _ _).symm.trans H; with_reducible exact H2_) | with_reducible exact H | (rw [hy144]; exact H) | exact H
      have Ny144 := am hy144; clear hy144
      by_cases c14 : 0 ≤ x5_1
      ·rw [if_pos c14] at H; have c14b0 := eq_true c14
       have c14b1 : decide (0 ≤ x5_1) = true := decide_eq_true c14
       clear c14
       by_cases c15 : x5_1 ≤ (l0.length : Int)
       ·rw [if_pos c15] at H; have c15b0 := eq_true c15
        have c15b1 : decide (x5_1 ≤ (l0.length : Int)) = true := decide_eq_true c15
        clear c15; obtain ⟨y147, hy147⟩ : ∃ y_ : List (S36), y_ = (l0.take (x5_1 : Int).toNat) := ⟨_, rfl⟩
        replace H : (if y144.length + y147.length < 5864062014805 then ((some (y144 ++ y147 : List (S36))).bind fun y151 => ((some (([(⟨a1_0, a1_1⟩ : S36)] : List (S36)) : List (S36))).bind fun y154 => (if y151.length + y154.length < 5864062014805 then ((some (y151 ++ y154 : List (S36))).bind fun y157 => ((some (l0.drop (x5_1 : Int).toNat : List (S36))).bind fun y160 => (if y157.length + y160.length < 5864062014805 then (some (y157 ++ y160)) else (none)))) else (none)))) else (none)) = some r := by first | (rw [hy147]; with_reducible exact H) | (have H2_ := (Option.bind_some _ _).symm.trans H; rw [hy147]; with_reducible exact H2_) | (have H2_ := (Option.bind_some _ _).symm.trans H; with_reducible exact H2_) | with_reducible exact H | (rw [hy147]; exact H) | exact H
        have Ny147 := am hy147; clear hy147
        by_cases c16 : y144.length + y147.length < 5864062014805
        ·rw [if_pos c16] at H; have LMc16 := Aside0.mk c16; clear c16; obtain ⟨y151, hy151⟩ : ∃ y_ : List (S36), y_ = (y144 ++ y147) := ⟨_, rfl⟩
         replace H : ((some (([(⟨a1_0, a1_1⟩ : S36)] : List (S36)) : List (S36))).bind fun y154 => (if y151.length + y154.length < 5864062014805 then ((some (y151 ++ y154 : List (S36))).bind fun y157 => ((some (l0.drop (x5_1 : Int).toNat : List (S36))).bind fun y160 => (if y157.length + y160.length < 5864062014805 then (some (y157 ++ y160)) else (none)))) else (none))) = some r := by first | (rw [hy151]; with_reducible exact H) | (have H2_ := (Option.bind_some _ _).symm.trans H; rw [hy151]; with_reducible exact H2_) | (have H2_ := (Option.bind_some _ _).symm.trans H; with_reducible exact H2_) | with_reducible exact H | (rw [hy151]; exact H) | exact H
         have Ny151 := am hy151; clear hy151; obtain ⟨y154, hy154⟩ : ∃ y_ : List (S36), y_ = (([(⟨a1_0, a1_1⟩ : S36)] : List (S36))) := ⟨_, rfl⟩
         replace H : (if y151.length + y154.length < 5864062014805 then ((some (y151 ++ y154 : List (S36))).bind fun y157 => ((some (l0.drop (x5_1 : Int).toNat : List (S36))).bind fun y160 => (if y157.length + y160.length < 5864062014805 then (some (y157 ++ y160)) else (none)))) else (none)) = some r := by first | (rw [hy154]; with_reducible exact H) | (have H2_ := (Option.bind_some _ _).symm.trans H; rw [hy154]; with_reducible exact H2_) | (have H2_ := (Option.bind_some _ _).symm.trans H; with_reducible exact H2_) | with_reducible exact H | (rw [hy154]; exact H) | exact H
         have Ny154 := am hy154; clear hy154
         by_cases c17 : y151.length + y154.length < 5864062014805
         ·rw [if_pos c17] at H; have LMc17 := Aside0.mk c17; clear c17; obtain ⟨y157, hy157⟩ : ∃ y_ : List (S36), y_ = (y151 ++ y154) := ⟨_, rfl⟩
          replace H : ((some (l0.drop (x5_1 : Int).toNat : List (S36))).bind fun y160 => (if y157.length + y160.length < 5864062014805 then (some (y157 ++ y160)) else (none))) = some r := by first | (rw [hy157]; with_reducible exact H) | (have H2_ := (Option.bind_some _ _).symm.trans H; rw [hy157]; with_reducible exact H2_) | (have H2_ := (Option.bind_some _ _).symm.trans H; with_reducible exact H2_) | with_reducible exact H | (rw [hy157]; exact H) | exact H
          have Ny157 := am hy157; clear hy157; have c18b0 := eq_true (of_decide_eq_true ad : 0 ≤ x5_1); have c19b0 := eq_true (of_decide_eq_true ad : x5_1 ≤ (l0.length : Int)); obtain ⟨y160, hy160⟩ : ∃ y_ : List (S36), y_ = (l0.drop (x5_1 : Int).toNat) := ⟨_, rfl⟩
          replace H : (if y157.length + y160.length < 5864062014805 then (some (y157 ++ y160)) else (none)) = some r := by first | (rw [hy160]; with_reducible exact H) | (have H2_ := (Option.bind_some _ _).symm.trans H; rw [hy160]; with_reducible exact H2_) | (have H2_ := (Option.bind_some _ _).symm.trans H; with_reducible exact H2_) | with_reducible exact H | (rw [hy160]; exact H) | exact H
          have Ny160 := am hy160; clear hy160
          by_cases c20 : y157.length + y160.length < 5864062014805
          ·rw [if_pos c20] at H; have LMc20 := Aside0.mk c20; clear c20; obtain ⟨y164, hy164⟩ : ∃ y_ : List (S36), y_ = (y157 ++ y160) := ⟨_, rfl⟩
           replace H : (some y164) = some r := by first | (rw [hy164]; with_reducible exact H) | (have H2_ := (Option.bind_some _ _).symm.trans H; rw [hy164]; with_reducible exact H2_) | (have H2_ := (Option.bind_some _ _).symm.trans H; with_reducible exact H2_) | with_reducible exact H | (rw [hy164]; exact H) | exact H
           have Ny164 := am hy164; clear hy164; obtain rfl := Option.some.inj H
           try go_wp2
           replace BK140 := am (blk_drew BK140.out); replace HB := am (below_drew1 HB.out)
           have q22 : (x5_1 : Int) ≤ ((l0.length : Int) : Int) := of_decide_eq_true ad
           obtain ⟨i022, hi022, _, hsz22, _⟩ := info_parts info36
           have hroom22 : l0.length ≤ c0 := HC0.out
           have hC22 : Kd.C k36 _ A0 l0.length l0 := HR0.out
           have hcut22 := cut_to (P := Try.prog) 24 36 .i64 Try.underlying24 hi022 A0 l0.length c0 x5_1 (of_decide_eq_true ad) q22 hroom22
           have hr22 := Kd.C_take (m := (x5_1 : Int).toNat) hC22 (by omega)
           have hy22 : y147.length = (x5_1 : Int).toNat := (by rw [Ny147.out, List.length_take]; omega)
           rw [← Ny147.out] at hr22; rw [← hy22] at hcut22; have HR150 := am hr22
           have HC150 := am (show y147.length ≤ c0 from by omega)
           clear hr22 hC22 hroom22 hi022 hsz22; have KY22 := am hy22; clear hy22; replace q22 := eq_true q22
           have q23 : (x5_1 : Int) ≤ ((l0.length : Int) : Int) := of_decide_eq_true ad
           obtain ⟨i023, hi023, _, hsz23, _⟩ := info_parts info36
           have hroom23 : l0.length ≤ c0 := HC0.out
           have hC23 : Kd.C k36 _ A0 l0.length l0 := HR0.out
           have q023 : (0 : Int) ≤ (x5_1 : Int) := of_decide_eq_true ad
           have hcut23 := cut_from (P := Try.prog) 24 36 .i64 Try.underlying24 hi023 2 hsz23 A0 l0.length c0 x5_1 q023 q23
           have hr23 := Kd.C_drop (m := (x5_1 : Int).toNat) (c := c0) hC23 (by omega) hroom23
           obtain ⟨A23, hA23⟩ : ∃ A1, A1 = (if c0 = (x5_1 : Int).toNat then A0 else (A0 : Option Addr).map (·.add ((x5_1 : Int).toNat * 2))) := ⟨_, rfl⟩; obtain ⟨c23, hc23⟩ : ∃ c1, c1 = c0 - (x5_1 : Int).toNat := ⟨_, rfl⟩
           have hy23 : y160.length = l0.length - (x5_1 : Int).toNat := (by rw [Ny160.out, List.length_drop] <;> omega)
           rw [show (l0).drop (x5_1 : Int).toNat = y160 from Ny160.out.symm] at hr23
           replace hr23 : Kd.C k36 _ A23 y160.length y160 := (by rw [hA23]; exact hr23)
           rw [← hy23, ← hA23, ← hc23] at hcut23; have HR163 := am hr23
           have HC163 := am (show y160.length ≤ c23 from by rw [hy23, hc23]; exact Nat.sub_le_sub_right hroom23 _)
           clear hr23 hC23 hroom23 hi023 hsz23 hc23; have KY23 := am hy23; have KA23 := am hA23; clear hy23 hA23; replace q23 := eq_true q23
           refine st (n := 13) (S := fun w' => w'.cell? ⟨gb140, 0, none⟩ = some (.string a1_0) ∧ w'.cell? ⟨gb140, 1, none⟩ = some (.int .i64 a1_1)) (ds := []) ⟨(blk_cell BK140.out 0).trans rfl, (blk_cell BK140.out 1).trans rfl⟩ (fun hHeld => ?_); refine with_tabW spec_l4Put.tab4 spec_l4Put.bits4 (fun HT_ HW_ => ?_)
           generalize wc.drew = w21 at BK140 HB HR150 HR163 hHeld ⊢
           refine pu 1 43 ?_
           refine pu 2 44 ?_
           refine pu 3 45 ?_
           refine pu 8 50 ?_
           refine pu 9 51 ?_
           refine pu 10 52 ?_
           refine tk2 5 47 hHeld ?_
           refine join_ (σ := Value × Value × Value) 3 #[true, true, true, true, true, true, true, false, true, true, true, false, false] (fun s_ => [(42, s_.1), (46, s_.2.1), (48, s_.2.2)]) (fun s_ w' => (w'.cell? ⟨gb140, 0, none⟩ = some (.string a1_0) ∧ w'.cell? ⟨gb140, 1, none⟩ = some (.int .i64 a1_1)) ∧ (Kd.R k36 36 w' w.heap.size (fun k_ => some k_ ≠ (s_.2.2 : Value).ownBlock ∧ k_ ≠ gb140) s_.2.1 y151) ∧ (Kd.R k36 36 w' w.heap.size (fun k_ => some k_ ≠ (s_.2.1 : Value).ownBlock ∧ k_ ≠ gb140) s_.2.2 y154) ∧ (w'.heap[gb140]? = some (.cells #[.string a1_0, .int .i64 a1_1] 36 (0, 0))) ∧ (Below w.heap.size w w')) ?_ ?_
           rotate_left
           ·intro hCont
            refine two_ (i := 0) (j := 6) (Ni := some 42) (Nj := some 48) #[true, true, true, true, false, true, false, false, true, true, true, false, false] #[false, true, true, true, false, true, true, false, true, true, true, false, false] rfl rfl rfl rfl (two_of HT_.out (by kernel_rfl)) (by decide) (by decide) (fun K hK => ?_) (fun K hK => ?_)
            ·skip
             refine Kd.R_lit_step k36 _ 36 ?hg (N := 42) ?hd (xs := ([] : List (S36))) (inner := []) (ok := fun _ => True) (okp := fun _ => True) ?hr ?hp (fun _ hk => hk) trivial (Below.refl _ _) (Nat.le_refl _) (by simp) ?_; (case hd => rfl); (case hg => rfl); (case hr => first | (go_simp; done) | (go_simp; rfl)); (case hp => exact (Reps.none _ _))
             intro v145 w24 ho25 hb hg_ hnew_; clear hg_ hnew_
             (first | rw [← Ny144.out] at ho25 | (simp only [Int.reduceToNat] at ho25; rw [← Ny144.out] at ho25) | (simp only [Int.toNat_natCast] at ho25; rw [← Ny144.out] at ho25))
             have HO146 := am (Kd.R_lower (Kd.R_newB ho25 (g := gb140) (o := .cells #[.string a1_0, .int .i64 a1_1] 36 (0, 0)) (bq BK140.out)) (below_size (bel1 GE140.out))); replace BK140 := am (blk_below (g := gb140) (o := .cells #[.string a1_0, .int .i64 a1_1] 36 (0, 0)) (bq BK140.out) hb); replace HB := am (below_step (bel1 GE140.out) hb); clear hb ho25
             refine hK.out _ _ ⟨(blk_cell BK140.out 0).trans rfl, (blk_cell BK140.out 1).trans rfl⟩ (fun hHeld => ?_)
             clear hK K
             refine norm_ (a' := ?_) ?_ ?_
             rotate_left
             ·show Act.put _ (some 42) _ = _
              simp only [Act.put, List.setIfInBounds_toArray, List.set_cons_zero, List.set_cons_succ, i64_w, i32_w]
              rfl
             refine two_ (i := 4) (j := 6) (Ni := some 46) (Nj := some 48) #[true, true, true, true, true, true, false, false, true, true, true, false, false] #[true, true, true, true, false, true, true, false, true, true, true, false, false] rfl rfl rfl rfl (two_of HT_.out (by kernel_rfl)) (by decide) (by decide) (fun K hK => ?_) (fun K hK => ?_)
             ·skip
              refine Kd.R_append_rows_step k36 (w0 := w) w.heap.size (by rfl) (.tmp 42) (.tmp 45) 24 36 (.agg #[(.string ⟨#[]⟩), (.int .i64 0)]) 24 rfl Try.underlying24 info36 rfl (by decide) (by omega) v145 y144 y147 _ _ _ (fun k_ => k_ ≠ gb140) (fun _ => False) rfl rfl ?aO ?aR (fun _ _ h => h) (fun _ h => h.elim) ?aF ?aB ?aS ?aL ?_
              (case aR => exact cq (Kd.C_below HR150.out HB.out)); (case aB => exact (bel1 GE140.out)); (case aF => exact (fun k_ hk => Kd.freshB (g := gb140) (o := .cells #[.string a1_0, .int .i64 a1_1] 36 (0, 0)) (bq BK140.out) k_ hk)); (case aO => exact (rq (Kd.R_mono HO146.out (fun _ hk => hk.2)))); (case aS => exact (below_size (bel1 GE140.out))); (case aL => have := LMc16.out; omega); intro v152 w26 ho hb hg hat; rw [← Ny151.out] at ho; replace BK140 := am (blk_grown (g := gb140) (o := .cells #[.string a1_0, .int .i64 a1_1] 36 (0, 0)) (bq BK140.out) hg (Kd.R_away HO146.out (fun _ hk => hk.2))); replace HB := am (hb); have HO153 := am (ho); clear HO146; clear ho hb hg hat
              refine hK.out _ _ ⟨(blk_cell BK140.out 0).trans rfl, (blk_cell BK140.out 1).trans rfl⟩ (fun hHeld => ?_)
              clear hK K
              refine norm_ (a' := ?_) ?_ ?_
              rotate_left
              ·show Act.put _ (some 46) _ = _
               simp only [Act.put, List.setIfInBounds_toArray, List.set_cons_zero, List.set_cons_succ, i64_w, i32_w]
               rfl
              refine on1 6 48 (fun K hK => ?_)
              refine Kd.R_lit_step k36 _ 36 ?hg (N := 48) ?hd (xs := ([(⟨a1_0, a1_1⟩ : S36)] : List (S36))) (inner := [.string a1_0, .int .i64 a1_1]) (ok := fun _ => True) (okp := fun _ => True) ?hr ?hp (fun _ hk => hk) trivial (Below.refl _ _) (Nat.le_refl _) (by simp) ?_; (case hd => rfl); (case hg => rfl); (case hr => first | (go_simp; done) | (go_simp; rfl)); (case hp => exact (Reps.c2 (show Kd.M k36 _ _ _ (⟨a1_0, a1_1⟩ : S36) [.string a1_0, .int .i64 a1_1] from (k36_mkM _ _ _ (⟨a1_0, a1_1⟩ : S36) )) (Reps.none _ _)))
              intro v155 w27 ho28 hb hg_ hnew_; clear hg_ hnew_
              (first | rw [← Ny154.out] at ho28 | (simp only [Int.reduceToNat] at ho28; rw [← Ny154.out] at ho28) | (simp only [Int.toNat_natCast] at ho28; rw [← Ny154.out] at ho28))
              have HO156 := am (Kd.R_lower (Kd.R_newB (Kd.R_new' ho28 (Kd.R_lt (rq HO153.out))) (g := gb140) (o := .cells #[.string a1_0, .int .i64 a1_1] 36 (0, 0)) (bq BK140.out)) (below_size (bel1 GE140.out))); replace HO153 := am (Kd.R_elder' (rq HO153.out) (Kd.R_base ho28) hb); replace BK140 := am (blk_below (g := gb140) (o := .cells #[.string a1_0, .int .i64 a1_1] 36 (0, 0)) (bq BK140.out) hb); replace HB := am (below_step (bel1 GE140.out) hb); clear hb ho28
              refine hK.out _ _ ⟨(blk_cell BK140.out 0).trans rfl, (blk_cell BK140.out 1).trans rfl⟩ (fun hHeld => ?_)
              clear hK K
              refine norm_ (a' := ?_) ?_ ?_
              rotate_left
              ·show Act.put _ (some 48) _ = _
               simp only [Act.put, List.setIfInBounds_toArray, List.set_cons_zero, List.set_cons_succ, i64_w, i32_w]
               rfl
              exact norm_ b32_ (hCont (v145, v152, v155) _ ⟨hHeld, (rq (Kd.R_mono HO153.out (fun _ hk => ⟨hk.2, hk.1⟩))), (rq (Kd.R_mono HO156.out (fun _ hk => ⟨hk.1.2, hk.2⟩))), (bq BK140.out), (bel1 GE140.out)⟩)
             ·skip
              refine Kd.R_lit_step k36 _ 36 ?hg (N := 48) ?hd (xs := ([(⟨a1_0, a1_1⟩ : S36)] : List (S36))) (inner := [.string a1_0, .int .i64 a1_1]) (ok := fun _ => True) (okp := fun _ => True) ?hr ?hp (fun _ hk => hk) trivial (Below.refl _ _) (Nat.le_refl _) (by simp) ?_; (case hd => rfl); (case hg => rfl); (case hr => first | (go_simp; done) | (go_simp; rfl)); (case hp => exact (Reps.c2 (show Kd.M k36 _ _ _ (⟨a1_0, a1_1⟩ : S36) [.string a1_0, .int .i64 a1_1] from (k36_mkM _ _ _ (⟨a1_0, a1_1⟩ : S36) )) (Reps.none _ _)))
              intro v155 w26 ho27 hb hg_ hnew_; clear hg_ hnew_
              (first | rw [← Ny154.out] at ho27 | (simp only [Int.reduceToNat] at ho27; rw [← Ny154.out] at ho27) | (simp only [Int.toNat_natCast] at ho27; rw [← Ny154.out] at ho27))
              have HO156 := am (Kd.R_lower (Kd.R_newB (Kd.R_new' ho27 (Kd.R_lt (rq HO146.out))) (g := gb140) (o := .cells #[.string a1_0, .int .i64 a1_1] 36 (0, 0)) (bq BK140.out)) (below_size (bel1 GE140.out))); replace HO146 := am (Kd.R_elder' (rq HO146.out) (Kd.R_base ho27) hb); replace BK140 := am (blk_below (g := gb140) (o := .cells #[.string a1_0, .int .i64 a1_1] 36 (0, 0)) (bq BK140.out) hb); replace HB := am (below_step (bel1 GE140.out) hb); clear hb ho27
              refine hK.out _ _ ⟨(blk_cell BK140.out 0).trans rfl, (blk_cell BK140.out 1).trans rfl⟩ (fun hHeld => ?_)
              clear hK K
              refine norm_ (a' := ?_) ?_ ?_
              rotate_left
              ·show Act.put _ (some 48) _ = _
               simp only [Act.put, List.setIfInBounds_toArray, List.set_cons_zero, List.set_cons_succ, i64_w, i32_w]
               rfl
              refine on1 4 46 (fun K hK => ?_)
              refine Kd.R_append_rows_step k36 (w0 := w) w.heap.size (by rfl) (.tmp 42) (.tmp 45) 24 36 (.agg #[(.string ⟨#[]⟩), (.int .i64 0)]) 24 rfl Try.underlying24 info36 rfl (by decide) (by omega) v145 y144 y147 _ _ _ (fun k_ => some k_ ≠ (v155 : Value).ownBlock ∧ k_ ≠ gb140) (fun _ => False) rfl rfl ?aO ?aR (fun _ _ h => h) (fun _ h => h.elim) ?aF ?aB ?aS ?aL ?_
              (case aR => exact cq (Kd.C_below HR150.out HB.out)); (case aB => exact (bel1 GE140.out)); (case aF => exact (fun k_ hk => ⟨Kd.fresh' (Kd.R_lt (rq HO156.out)) k_ hk, Kd.freshB (g := gb140) (o := .cells #[.string a1_0, .int .i64 a1_1] 36 (0, 0)) (bq BK140.out) k_ hk⟩)); (case aO => exact (rq (Kd.R_mono HO146.out (fun _ hk => ⟨hk.2, hk.1.2⟩)))); (case aS => exact (below_size (bel1 GE140.out))); (case aL => have := LMc16.out; omega); intro v152 w28 ho hb hg hat; rw [← Ny151.out] at ho; replace BK140 := am (blk_grown (g := gb140) (o := .cells #[.string a1_0, .int .i64 a1_1] 36 (0, 0)) (bq BK140.out) hg (Kd.R_away HO146.out (fun _ hk => hk.1.2))); replace HO156 := am (Kd.R_after (ok := (fun k_ => k_ ≠ gb140)) (rq (Kd.R_mono HO156.out (fun _ hk => ⟨hk.2, hk.1.2⟩))) hg hat); replace HB := am (hb); have HO153 := am (ho); clear HO146; clear ho hb hg hat
              refine hK.out _ _ ⟨(blk_cell BK140.out 0).trans rfl, (blk_cell BK140.out 1).trans rfl⟩ (fun hHeld => ?_)
              clear hK K
              refine norm_ (a' := ?_) ?_ ?_
              rotate_left
              ·show Act.put _ (some 46) _ = _
               simp only [Act.put, List.setIfInBounds_toArray, List.set_cons_zero, List.set_cons_succ, i64_w, i32_w]
               rfl
              exact norm_ b32_ (hCont (v145, v152, v155) _ ⟨hHeld, (rq HO153.out), (rq (Kd.R_mono HO156.out (fun _ hk => ⟨hk.2, hk.1⟩))), (bq BK140.out), (bel1 GE140.out)⟩)
            ·skip
             refine Kd.R_lit_step k36 _ 36 ?hg (N := 48) ?hd (xs := ([(⟨a1_0, a1_1⟩ : S36)] : List (S36))) (inner := [.string a1_0, .int .i64 a1_1]) (ok := fun _ => True) (okp := fun _ => True) ?hr ?hp (fun _ hk => hk) trivial (Below.refl _ _) (Nat.le_refl _) (by simp) ?_; (case hd => rfl); (case hg => rfl); (case hr => first | (go_simp; done) | (go_simp; rfl)); (case hp => exact (Reps.c2 (show Kd.M k36 _ _ _ (⟨a1_0, a1_1⟩ : S36) [.string a1_0, .int .i64 a1_1] from (k36_mkM _ _ _ (⟨a1_0, a1_1⟩ : S36) )) (Reps.none _ _)))
             intro v155 w24 ho25 hb hg_ hnew_; clear hg_ hnew_
             (first | rw [← Ny154.out] at ho25 | (simp only [Int.reduceToNat] at ho25; rw [← Ny154.out] at ho25) | (simp only [Int.toNat_natCast] at ho25; rw [← Ny154.out] at ho25))
             have HO156 := am (Kd.R_lower (Kd.R_newB ho25 (g := gb140) (o := .cells #[.string a1_0, .int .i64 a1_1] 36 (0, 0)) (bq BK140.out)) (below_size (bel1 GE140.out))); replace BK140 := am (blk_below (g := gb140) (o := .cells #[.string a1_0, .int .i64 a1_1] 36 (0, 0)) (bq BK140.out) hb); replace HB := am (below_step (bel1 GE140.out) hb); clear hb ho25
             refine hK.out _ _ ⟨(blk_cell BK140.out 0).trans rfl, (blk_cell BK140.out 1).trans rfl⟩ (fun hHeld => ?_)
             clear hK K
             refine norm_ (a' := ?_) ?_ ?_
             rotate_left
             ·show Act.put _ (some 48) _ = _
              simp only [Act.put, List.setIfInBounds_toArray, List.set_cons_zero, List.set_cons_succ, i64_w, i32_w]
              rfl
             refine on1 0 42 (fun K hK => ?_)
             refine Kd.R_lit_step k36 _ 36 ?hg (N := 42) ?hd (xs := ([] : List (S36))) (inner := []) (ok := fun _ => True) (okp := fun _ => True) ?hr ?hp (fun _ hk => hk) trivial (Below.refl _ _) (Nat.le_refl _) (by simp) ?_; (case hd => rfl); (case hg => rfl); (case hr => first | (go_simp; done) | (go_simp; rfl)); (case hp => exact (Reps.none _ _))
             intro v145 w26 ho27 hb hg_ hnew_; clear hg_ hnew_
             (first | rw [← Ny144.out] at ho27 | (simp only [Int.reduceToNat] at ho27; rw [← Ny144.out] at ho27) | (simp only [Int.toNat_natCast] at ho27; rw [← Ny144.out] at ho27))
             have HO146 := am (Kd.R_lower (Kd.R_newB (Kd.R_new' ho27 (Kd.R_lt (rq HO156.out))) (g := gb140) (o := .cells #[.string a1_0, .int .i64 a1_1] 36 (0, 0)) (bq BK140.out)) (below_size (bel1 GE140.out))); replace HO156 := am (Kd.R_elder' (rq HO156.out) (Kd.R_base ho27) hb); replace BK140 := am (blk_below (g := gb140) (o := .cells #[.string a1_0, .int .i64 a1_1] 36 (0, 0)) (bq BK140.out) hb); replace HB := am (below_step (bel1 GE140.out) hb); clear hb ho27
             refine hK.out _ _ ⟨(blk_cell BK140.out 0).trans rfl, (blk_cell BK140.out 1).trans rfl⟩ (fun hHeld => ?_)
             clear hK K
             refine norm_ (a' := ?_) ?_ ?_
             rotate_left
             ·show Act.put _ (some 42) _ = _
              simp only [Act.put, List.setIfInBounds_toArray, List.set_cons_zero, List.set_cons_succ, i64_w, i32_w]
              rfl
             refine on1 4 46 (fun K hK => ?_)
             refine Kd.R_append_rows_step k36 (w0 := w) w.heap.size (by rfl) (.tmp 42) (.tmp 45) 24 36 (.agg #[(.string ⟨#[]⟩), (.int .i64 0)]) 24 rfl Try.underlying24 info36 rfl (by decide) (by omega) v145 y144 y147 _ _ _ (fun k_ => some k_ ≠ (v155 : Value).ownBlock ∧ k_ ≠ gb140) (fun _ => False) rfl rfl ?aO ?aR (fun _ _ h => h) (fun _ h => h.elim) ?aF ?aB ?aS ?aL ?_
             (case aR => exact cq (Kd.C_below HR150.out HB.out)); (case aB => exact (bel1 GE140.out)); (case aF => exact (fun k_ hk => ⟨Kd.fresh' (Kd.R_lt (rq HO156.out)) k_ hk, Kd.freshB (g := gb140) (o := .cells #[.string a1_0, .int .i64 a1_1] 36 (0, 0)) (bq BK140.out) k_ hk⟩)); (case aO => exact (rq (Kd.R_mono HO146.out (fun _ hk => ⟨hk.1.2, hk.2⟩)))); (case aS => exact (below_size (bel1 GE140.out))); (case aL => have := LMc16.out; omega); intro v152 w28 ho hb hg hat; rw [← Ny151.out] at ho; replace BK140 := am (blk_grown (g := gb140) (o := .cells #[.string a1_0, .int .i64 a1_1] 36 (0, 0)) (bq BK140.out) hg (Kd.R_away HO146.out (fun _ hk => hk.2))); replace HO156 := am (Kd.R_after (ok := (fun k_ => k_ ≠ gb140)) (rq (Kd.R_mono HO156.out (fun _ hk => ⟨hk.1.2, hk.2⟩))) hg hat); replace HB := am (hb); have HO153 := am (ho); clear HO146; clear ho hb hg hat
             refine hK.out _ _ ⟨(blk_cell BK140.out 0).trans rfl, (blk_cell BK140.out 1).trans rfl⟩ (fun hHeld => ?_)
             clear hK K
             refine norm_ (a' := ?_) ?_ ?_
             rotate_left
             ·show Act.put _ (some 46) _ = _
              simp only [Act.put, List.setIfInBounds_toArray, List.set_cons_zero, List.set_cons_succ, i64_w, i32_w]
              rfl
             exact norm_ b32_ (hCont (v145, v152, v155) _ ⟨hHeld, (rq HO153.out), (rq (Kd.R_mono HO156.out (fun _ hk => ⟨hk.2, hk.1⟩))), (bq BK140.out), (bel1 GE140.out)⟩)
           rintro ⟨v145, v152, v155⟩ w29 ⟨hS_, h0_, h1_, h2_, h3_⟩
           have n0_ : Aside0 (Kd.R k36 36 w29 w.heap.size (fun k_ => some k_ ≠ (v155 : Value).ownBlock ∧ k_ ≠ gb140) v152 y151) := ⟨h0_⟩
           have n1_ : Aside0 (Kd.R k36 36 w29 w.heap.size (fun k_ => some k_ ≠ (v152 : Value).ownBlock ∧ k_ ≠ gb140) v155 y154) := ⟨h1_⟩
           have n2_ : Aside0 (w29.heap[gb140]? = some (.cells #[.string a1_0, .int .i64 a1_1] 36 (0, 0))) := ⟨h2_⟩
           have n3_ : Aside0 (Below w.heap.size w w29) := ⟨h3_⟩
           clear BK140; clear HB; clear h0_ h1_ h2_ h3_; have HO153 := n0_; have HO156 := n1_; have BK140 := n2_; have HB := n3_; clear n0_ n1_ n2_ n3_
           have hHeld : w29.cell? ⟨gb140, 0, none⟩ = some (.string a1_0) ∧ w29.cell? ⟨gb140, 1, none⟩ = some (.int .i64 a1_1) := hS_
           obtain ⟨Ao31, co31, eo31⟩ := Kd.R_slice HO156.out
           (first | subst eo31 | (injection eo31 with f1_ f2_ f3_; have f4_ := f1_.symm; have f5_ := f3_.symm; clear f1_ f2_ f3_; subst f4_; subst f5_))
           refine norm_ (a' := ?_) ?_ ?_
           rotate_left
           ·simp only [putAll, Act.put, List.setIfInBounds_toArray, List.set_cons_zero, List.set_cons_succ]
            rfl
           refine on1 7 49 (fun K hK => ?_)
           refine Kd.R_append_rows_step k36 (w0 := w) w.heap.size (by rfl) (.tmp 46) (.tmp 48) 24 36 (.agg #[(.string ⟨#[]⟩), (.int .i64 0)]) 24 rfl Try.underlying24 info36 rfl (by decide) (by omega) v152 y151 y154 _ _ _ (fun k_ => some k_ ≠ (.slice Ao31 y154.length co31 : Value).ownBlock ∧ k_ ≠ gb140) (fun _ => False) rfl rfl ?aO ?aR (fun _ _ h => h) (fun _ h => h.elim) ?aF ?aB ?aS ?aL ?_
           (case aR => exact cq (Kd.R_reads' HO156.out).2.2); (case aB => exact (bel1 GE140.out)); (case aF => exact (fun k_ hk => ⟨Kd.fresh' (Kd.R_lt (rq HO156.out)) k_ hk, Kd.freshB (g := gb140) (o := .cells #[.string a1_0, .int .i64 a1_1] 36 (0, 0)) (bq BK140.out) k_ hk⟩)); (case aO => exact (rq HO153.out)); (case aS => exact (below_size (bel1 GE140.out))); (case aL => have := LMc17.out; omega); intro v158 w30 ho hb hg hat; rw [← Ny157.out] at ho; replace BK140 := am (blk_grown (g := gb140) (o := .cells #[.string a1_0, .int .i64 a1_1] 36 (0, 0)) (bq BK140.out) hg (Kd.R_away HO153.out (fun _ hk => hk.2))); replace HO156 := am (Kd.R_after (ok := (fun k_ => k_ ≠ gb140)) (rq (Kd.R_mono HO156.out (fun _ hk => ⟨hk.2, hk.1⟩))) hg hat); replace HB := am (hb); have HO159 := am (ho); clear HO153; clear ho hb hg hat
           refine hK.out _ _ ⟨(blk_cell BK140.out 0).trans rfl, (blk_cell BK140.out 1).trans rfl⟩ (fun hHeld => ?_)
           clear hK K
           refine norm_ (a' := ?_) ?_ ?_
           rotate_left
           ·show Act.put _ (some 49) _ = _
            simp only [Act.put, List.setIfInBounds_toArray, List.set_cons_zero, List.set_cons_succ, i64_w, i32_w]
            rfl
           refine on1 11 53 (fun K hK => ?_)
           refine Kd.R_append_rows_step k36 (w0 := w) w.heap.size (by rfl) (.tmp 49) (.tmp 52) 24 36 (.agg #[(.string ⟨#[]⟩), (.int .i64 0)]) 24 rfl Try.underlying24 info36 rfl (by decide) (by omega) v158 y157 y160 _ _ _ (fun k_ => some k_ ≠ (.slice Ao31 y154.length co31 : Value).ownBlock ∧ k_ ≠ gb140) (fun _ => False) rfl rfl ?aO ?aR (fun _ _ h => h) (fun _ h => h.elim) ?aF ?aB ?aS ?aL ?_
           (case aR => exact cq (Kd.C_below HR163.out HB.out)); (case aB => exact (bel1 GE140.out)); (case aF => exact (fun k_ hk => ⟨Kd.fresh' (Kd.R_lt (rq HO156.out)) k_ hk, Kd.freshB (g := gb140) (o := .cells #[.string a1_0, .int .i64 a1_1] 36 (0, 0)) (bq BK140.out) k_ hk⟩)); (case aO => exact (rq HO159.out)); (case aS => exact (below_size (bel1 GE140.out))); (case aL => have := LMc20.out; omega); intro v165 w32 ho hb hg hat; rw [← Ny164.out] at ho; replace BK140 := am (blk_grown (g := gb140) (o := .cells #[.string a1_0, .int .i64 a1_1] 36 (0, 0)) (bq BK140.out) hg (Kd.R_away HO159.out (fun _ hk => hk.2))); replace HO156 := am (Kd.R_after (ok := (fun k_ => k_ ≠ gb140)) (rq HO156.out) hg hat); replace HB := am (hb); have HO166 := am (ho); clear HO159; clear ho hb hg hat
           refine hK.out _ _ ⟨(blk_cell BK140.out 0).trans rfl, (blk_cell BK140.out 1).trans rfl⟩ (fun hHeld => ?_)
           clear hK K
           refine norm_ (a' := ?_) ?_ ?_
           rotate_left
           ·show Act.put _ (some 53) _ = _
            simp only [Act.put, List.setIfInBounds_toArray, List.set_cons_zero, List.set_cons_succ, i64_w, i32_w]
            rfl
           refine pu 12 4 ?_
           refine done_ (done_of HT_.out (by kernel_rfl)) ?_
           try go_wp2
           go_ret
           exact ⟨_, eq_, by (with_reducible repeat (first | apply Kd.R_alloc | apply Kd.R_drewN | apply Kd.R_drew)); exact Kd.R_mono HO166.out (fun _ hk => trivial), bel1 GE140.out⟩
          ·rw [if_neg c20] at H
           exact absurd H (by simp)
         ·rw [if_neg c17] at H
          exact absurd H (by simp)
        ·rw [if_neg c16] at H
         exact absurd H (by simp)
       ·rw [if_neg c15] at H
        exact absurd H (by simp)
      ·rw [if_neg c14] at H
       exact absurd H (by simp)

end Go.Proofs.Ytfpmfaelodfecaa.QFnExactGuesses
