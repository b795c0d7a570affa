import Derived.Test.YtfpmfaelodfecaaQFnExactMachineGuessesx0
import Derived.Test.YtfpmfaelodfecaaVMSh2
namespace Go.Proofs.Ytfpmfaelodfecaa.QFnExactMachineGuesses
open Go.RowKit Go.Proofs.YtfpmfaelodfecaaW.PrintWords Go.Proofs.YtfpmfaelodfecaaW.PrintLast Go.Proofs.YtfpmfaelodfecaaW.PrintMore Go.Proofs.Ytfpmfaelodfecaa.Sh
attribute [local go_sem] max2_int min2_int max_two min_two max_three min_three max_four min_four
set_option linter.unusedVariables false
set_option linter.unusedSimpArgs false
set_option maxHeartbeats 8000000
set_option maxRecDepth 100000
-- shrunk

/-! ### spec_l1Step: function 113 -/
def spec_l1Step.j0 : Nat → List ByteArray → ByteArray → Bool → Option (List ByteArray)
 | 0, _, _, _ => none
 | k + 1, x0, x2, x14 => if x14 = true then (some x0) else ((spec_l1Put.f k x0 x2).bind fun t163 => (some t163))
def spec_l1Step.f (k : Nat) (l0 : List ByteArray) (a1 : ByteArray) (a2 : ByteArray) : Option (List ByteArray) := if a2.toList = a1.toList then (spec_l1Step.j0 k l0 a2 true) else ((spec_l1Word.f k a2).bind fun t162 => (spec_l1Step.j0 k l0 a2 (!t162)))
theorem spec_l1Step.calls (k : Nat) (P0_ : Nat → Prop) (A0 : Option Addr) (c0 : Nat) (l0 : List ByteArray) (a1 : ByteArray) (a2 : ByteArray) (r : List ByteArray) (w : World) (hs0 : Kd.V Kd.string 9 w w.heap.size (fun k_ => P0_ k_) (.slice A0 l0.length c0) l0) (h : spec_l1Step.f k l0 a1 a2 = some r) :
  Calls Try.prog 113 #[.slice A0 l0.length c0, .string a1, .string a2] w fun e w' => ∃ v0_ : Value, e = .returned (v0_) ∧ Kd.V Kd.string 9 w' w.heap.size (fun k_ => (P0_ k_ ∨ w.heap.size ≤ k_)) v0_ r ∧ Below w.heap.size w w' := by
 have HO0 := am (show Kd.V Kd.string 9 w w.heap.size (fun k_ => (P0_ k_ ∨ w.heap.size ≤ k_)) (.slice A0 l0.length c0) l0 from Kd.V_mono hs0 (fun k_ hk => .inl hk)); have HB := am (Below.refl w.heap.size w)
 have H : (if a2.toList = a1.toList then (spec_l1Step.j0 k l0 a2 true) else ((spec_l1Word.f k a2).bind fun t162 => (spec_l1Step.j0 k l0 a2 (!t162)))) = some r := h
 clear h; have HC4 := am H; clear H; go_enter Try.func113, Try.ntmps113
 go_upto_region 1 with (fail)
 go_cut [14] (fun v14 wc => ∃ (kq : Nat) (x14_3 : Bool), v14 = .bool x14_3 ∧ Aside0 (spec_l1Step.j0 kq l0 a2 x14_3 = some r) ∧ Aside0 (kq ≤ k) ∧ Aside0 (Kd.V Kd.string 9 wc w.heap.size (fun k_ => (P0_ k_ ∨ w.heap.size ≤ k_)) (.slice A0 l0.length c0) l0) ∧ Aside0 (Below w.heap.size w wc))
 case first =>
  have H := HC4.out; clear HC4
  by_cases c5 : a2.toList = a1.toList
  ·rw [if_pos c5] at H
   have c5b0 : (a2.toList == a1.toList) = true := beq_iff_eq.mpr c5
   have c5b1 : (a2.toList != a1.toList) = false := bne_eq_false_iff_eq.mpr c5
   clear c5
   (first | rw [c5b0] | (simp only [i64_w, i32_w]; rw [c5b0]) | skip)
   have H' := am H
   clear H; go_wp2
   go_meet
   case rel => exact ⟨_, (true), sq, H', ⟨b36_⟩, ⟨vq HO0.out⟩, ⟨bel⟩⟩
  rw [if_neg c5] at H
  have c5b0 : (a2.toList == a1.toList) = false := beq_eq_false_iff_ne.mpr c5
  have c5b1 : (a2.toList != a1.toList) = true := bne_iff_ne.mpr c5
  (first | rw [c5b0] | (simp only [i64_w, i32_w]; rw [c5b0]) | skip)
  replace H := bs H; obtain ⟨t162, A60, H⟩ := H; replace H : (spec_l1Step.j0 k l0 a2 (!t162)) = some r := H; have A6 := Aside0.mk A60; clear A60
  have H' := am H
  clear H
  go_wp2_with (first | (go_at_call 57; (with_reducible refine (spec_l1Word.calls k a2 t162 _ A6.out).mono ?_); rintro e w' ⟨rfl, ⟨nd, rfl⟩⟩))
  go_meet
  case rel => exact ⟨_, (!t162), sq, H', ⟨b36_⟩, ⟨vq HO0.out⟩, ⟨bel⟩⟩
 case rest =>
  clear HC4; (try clear c1); (try clear p2); (try clear c5); (try clear c5b0); (try clear c5b1); obtain ⟨kq, x14_3, rfl, HA, HJ3, HO_0, HB⟩ := hcut
  cases kq with
  | zero => exact absurd HA.out (by simp [spec_l1Step.j0])
  | succ kj3 =>
   have H := HA.out; clear HA
   simp only [spec_l1Step.j0] at H
   by_cases c7 : x14_3 = true
   ·subst c7
    have H1 : (some l0) = some r := b11_
    replace H := H1; clear H1
    obtain rfl := Option.some.inj H; go_wp2; go_ret
    exact ⟨_, eq_, by (with_reducible repeat (first | apply Kd.V_alloc | apply Kd.V_drewN | apply Kd.V_drew)); exact HO_0.out, bel⟩
   replace c7 := Bool.eq_false_iff.mpr c7; subst c7
   have H1 : ((spec_l1Put.f kj3 l0 a2).bind fun t163 => (some t163)) = some r := b5_
   replace H := H1; clear H1
   replace H := bs H; obtain ⟨t163, A80, H⟩ := H; replace H : (some t163) = some r := H; have A8 := Aside0.mk A80; clear A80; obtain rfl := Option.some.inj H
   go_wp2_with (first | ((with_reducible refine gate_callee (f := 138) rfl ?_); refine goesL_ (some 18) rfl rfl Try.func138 (by kernel_rfl) rfl #[.slice A0 l0.length c0, .string a2] rfl mq ?_; (with_reducible refine (spec_l1Put.calls kj3 (fun k_ => (P0_ k_ ∨ w.heap.size ≤ k_)) _ _ l0 a2 t163 _ ?side1 A8.out).mono ?_); (case side1 => exact HO_0.out); rintro e w9 ⟨v164, rfl, ho0, hb⟩; refine ⟨_, rfl, ?_⟩; replace HO_0 := am (Kd.V_below (vq HO_0.out) hb); have HO165 := am (Kd.V_lower (Kd.V_mono (ok' := fun k_ => (P0_ k_ ∨ w.heap.size ≤ k_)) ho0 (fun k_ hk_ => Or.elim hk_ (fun hs_ => hs_) (fun hn_ => (.inr (Nat.le_trans (below_size bel) hn_))))) (below_size bel)); replace HB := am (below_step bel hb); (try clear hb); (try clear hb2); (try clear hk); (try clear hi); (try clear ho0)))
   go_ret
   exact ⟨_, eq_, by (with_reducible repeat (first | apply Kd.V_alloc | apply Kd.V_drewN | apply Kd.V_drew)); exact HO165.out, bel⟩
-- shrunk

/-! ### spec_l1Near: function 70 -/
mutual
def spec_l1Near.l0 : Nat → ByteArray → List ByteArray → Int → Option (List ByteArray)
 | 0, _, _, _ => none
 | k + 1, x0, x3, x4 => if x4 ≤ (x0.size : Int) then (spec_l1Near.l1 k x0 x3 x4 97) else (some x3)
def spec_l1Near.l1 : Nat → ByteArray → List ByteArray → Int → Int → Option (List ByteArray)
 | 0, _, _, _, _ => none
 | k + 1, x0, x3, x4, x5 => if x5 ≤ 122 then (if 0 ≤ x4 then (if x4 ≤ (x0.size : Int) then ((some (([(x5) % 256] : List Int) : List Int)).bind fun y169 => (if (x0.extract 0 (x4 : Int).toNat).size + (strOfNums y169).size ≤ 9223372036854775807 then (if ((x0.extract 0 (x4 : Int).toNat) ++ (strOfNums y169)).size + (x0.extract (x4 : Int).toNat x0.size).size ≤ 9223372036854775807 then ((spec_l1Step.f k x3 x0 (((x0.extract 0 (x4 : Int).toNat) ++ (strOfNums y169)) ++ (x0.extract (x4 : Int).toNat x0.size))).bind fun t172 => (if x4 < (x0.size : Int) then ((some (([(x5) % 256] : List Int) : List Int)).bind fun y175 => (if (x0.extract 0 (x4 : Int).toNat).size + (strOfNums y175).size ≤ 9223372036854775807 then (if 0 ≤ (wrap64 (x4 + 1)) then (if (wrap64 (x4 + 1)) ≤ (x0.size : Int) then (if ((x0.extract 0 (x4 : Int).toNat) ++ (strOfNums y175)).size + (x0.extract ((wrap64 (x4 + 1)) : Int).toNat x0.size).size ≤ 9223372036854775807 then ((spec_l1Step.f k t172 x0 (((x0.extract 0 (x4 : Int).toNat) ++ (strOfNums y175)) ++ (x0.extract ((wrap64 (x4 + 1)) : Int).toNat x0.size))).bind fun t178 => (spec_l1Near.l1 k x0 t178 x4 (wrap32 (x5 + 1)))) else (none)) else (none)) else (none)) else (none))) else (spec_l1Near.l1 k x0 t172 x4 (wrap32 (x5 + 1))))) else (none)) else (none))) else (none)) else (none)) else (if x4 < (x0.size : Int) then (if 0 ≤ x4 then (if x4 ≤ (x0.size : Int) then (if 0 ≤ (wrap64 (x4 + 1)) then (if (wrap64 (x4 + 1)) ≤ (x0.size : Int) then (if (x0.extract 0 (x4 : Int).toNat).size + (x0.extract ((wrap64 (x4 + 1)) : Int).toNat x0.size).size ≤ 9223372036854775807 then ((spec_l1Step.f k x3 x0 ((x0.extract 0 (x4 : Int).toNat) ++ (x0.extract ((wrap64 (x4 + 1)) : Int).toNat x0.size))).bind fun t181 => (spec_l1Near.j2 k x0 t181 x4)) else (none)) else (none)) else (none)) else (none)) else (none)) else (spec_l1Near.j2 k x0 x3 x4))
def spec_l1Near.j2 : Nat → ByteArray → List ByteArray → Int → Option (List ByteArray)
 | 0, _, _, _ => none
 | k + 1, x0, x3, x4 => if (wrap64 (x4 + 1)) < (x0.size : Int) then (if 0 ≤ x4 then (if x4 ≤ (x0.size : Int) then (if 0 ≤ (wrap64 (x4 + 1)) then (if (wrap64 (x4 + 1)) ≤ (wrap64 (x4 + 2)) then (if (wrap64 (x4 + 2)) ≤ (x0.size : Int) then (if (x0.extract 0 (x4 : Int).toNat).size + (x0.extract ((wrap64 (x4 + 1)) : Int).toNat ((wrap64 (x4 + 2)) : Int).toNat).size ≤ 9223372036854775807 then (if x4 ≤ (wrap64 (x4 + 1)) then (if (wrap64 (x4 + 1)) ≤ (x0.size : Int) then (if ((x0.extract 0 (x4 : Int).toNat) ++ (x0.extract ((wrap64 (x4 + 1)) : Int).toNat ((wrap64 (x4 + 2)) : Int).toNat)).size + (x0.extract (x4 : Int).toNat ((wrap64 (x4 + 1)) : Int).toNat).size ≤ 9223372036854775807 then (if 0 ≤ (wrap64 (x4 + 2)) then (if (((x0.extract 0 (x4 : Int).toNat) ++ (x0.extract ((wrap64 (x4 + 1)) : Int).toNat ((wrap64 (x4 + 2)) : Int).toNat)) ++ (x0.extract (x4 : Int).toNat ((wrap64 (x4 + 1)) : Int).toNat)).size + (x0.extract ((wrap64 (x4 + 2)) : Int).toNat x0.size).size ≤ 9223372036854775807 then ((spec_l1Step.f k x3 x0 ((((x0.extract 0 (x4 : Int).toNat) ++ (x0.extract ((wrap64 (x4 + 1)) : Int).toNat ((wrap64 (x4 + 2)) : Int).toNat)) ++ (x0.extract (x4 : Int).toNat ((wrap64 (x4 + 1)) : Int).toNat)) ++ (x0.extract ((wrap64 (x4 + 2)) : Int).toNat x0.size))).bind fun t184 => (spec_l1Near.l0 k x0 t184 (wrap64 (x4 + 1)))) else (none)) else (none)) else (none)) else (none)) else (none)) else (none)) else (none)) else (none)) else (none)) else (none)) else (none)) else (spec_l1Near.l0 k x0 x3 (wrap64 (x4 + 1)))
end
def spec_l1Near.f (k : Nat) (a0 : ByteArray) : Option (List ByteArray) := spec_l1Near.l0 k a0 (([] : List ByteArray)) 0
def spec_l1Near.T8 : Bool × List (List Nat × List Nat) := (true, [([], []), ([], []), ([], []), ([], []), ([2, 3], [2, 3]), ([], []), ([5], [5]), ([6], [6]), ([7], [7]), ([4, 8], [4, 8]), ([], []), ([], []), ([10, 11], [10, 11]), ([9, 12], [9, 12]), ([0, 1, 13], [0, 1, 13]), ([14, 14, 0, 1, 2, 3, 4, 5, 6, 7, 8, 9, 10, 11, 12, 13, 14], [0, 14])])
def spec_l1Near.B8 : List Nat := [0, 0, 0, 0, 12, 0, 32, 96, 224, 508, 0, 0, 3072, 8188, 16383, 32767]
theorem spec_l1Near.tab8 : rtab .any (opsOf Try.f70 8) = spec_l1Near.T8 := by kernel_rfl
theorem spec_l1Near.bits8 : waitsOk spec_l1Near.T8.2 spec_l1Near.B8 = true := by kernel_rfl
def spec_l1Near.T10 : Bool × List (List Nat × List Nat) := (true, [([], []), ([], []), ([], []), ([], []), ([2, 3], [2, 3]), ([], []), ([5], [5]), ([6], [6]), ([7], [7]), ([4, 8], [4, 8]), ([], []), ([], []), ([11], [11]), ([10, 12], [10, 12]), ([9, 13], [9, 13]), ([0, 1, 14], [0, 1, 14]), ([15, 15, 0, 1, 2, 3, 4, 5, 6, 7, 8, 9, 10, 11, 12, 13, 14, 15], [0, 15])])
def spec_l1Near.B10 : List Nat := [0, 0, 0, 0, 12, 0, 32, 96, 224, 508, 0, 0, 2048, 7168, 16380, 32767, 65535]
theorem spec_l1Near.tab10 : rtab .any (opsOf Try.f70 10) = spec_l1Near.T10 := by kernel_rfl
theorem spec_l1Near.bits10 : waitsOk spec_l1Near.T10.2 spec_l1Near.B10 = true := by kernel_rfl
def spec_l1Near.T12 : Bool × List (List Nat × List Nat) := (true, [([], []), ([], []), ([], []), ([], []), ([2, 3], [2, 3]), ([], []), ([], []), ([6], [6]), ([5, 7], [5, 7]), ([4, 8], [4, 8]), ([0, 1, 9], [0, 1, 9]), ([10, 10, 0, 1, 2, 3, 4, 5, 6, 7, 8, 9, 10], [0, 10])])
def spec_l1Near.B12 : List Nat := [0, 0, 0, 0, 12, 0, 0, 64, 224, 508, 1023, 2047]
theorem spec_l1Near.tab12 : rtab .any (opsOf Try.f70 12) = spec_l1Near.T12 := by kernel_rfl
theorem spec_l1Near.bits12 : waitsOk spec_l1Near.T12.2 spec_l1Near.B12 = true := by kernel_rfl
def spec_l1Near.T14 : Bool × List (List Nat × List Nat) := (true, [([], []), ([], []), ([], []), ([], []), ([2, 3], [2, 3]), ([], []), ([], []), ([6], [6]), ([], []), ([8], [8]), ([5, 7, 9], [5, 7, 9]), ([4, 10], [4, 10]), ([], []), ([], []), ([], []), ([14], [14]), ([12, 13, 15], [12, 13, 15]), ([11, 16], [11, 16]), ([], []), ([], []), ([19], [19]), ([18, 20], [18, 20]), ([17, 21], [17, 21]), ([0, 1, 22], [0, 1, 22]), ([23, 23, 0, 1, 2, 3, 4, 5, 6, 7, 8, 9, 10, 11, 12, 13, 14, 15, 16, 17, 18, 19, 20, 21, 22, 23], [0, 23])])
def spec_l1Near.B14 : List Nat := [0, 0, 0, 0, 12, 0, 0, 64, 0, 256, 992, 2044, 0, 0, 0, 16384, 61440, 131068, 0, 0, 524288, 1835008, 4194300, 8388607, 16777215]
theorem spec_l1Near.tab14 : rtab .any (opsOf Try.f70 14) = spec_l1Near.T14 := by kernel_rfl
theorem spec_l1Near.bits14 : waitsOk spec_l1Near.T14.2 spec_l1Near.B14 = true := by kernel_rfl
theorem spec_l1Near.calls (k : Nat) (a0 : ByteArray) (r : List ByteArray) (w : World) (h : spec_l1Near.f k a0 = some r) :
  Calls Try.prog 70 #[.string a0] w fun e w' => ∃ v0_ : Value, e = .returned (v0_) ∧ Kd.V Kd.string 9 w' w.heap.size (fun k_ => (w.heap.size ≤ k_)) v0_ r ∧ Below w.heap.size w w' := by
 have HB := am (Below.refl w.heap.size w)
 have H : (spec_l1Near.l0 k a0 (([] : List ByteArray)) 0) = some r := h
 clear h; obtain ⟨y166, hy166⟩ : ∃ y_ : List ByteArray, y_ = (([] : List ByteArray)) := ⟨_, rfl⟩
 replace H : (spec_l1Near.l0 k a0 y166 0) = some r := by first | (rw [hy166]; with_reducible exact H) | (have H2_ := bm H; rw [hy166]; with_reducible exact H2_) | (with_reducible exact bm H) | with_reducible exact H | (rw [hy166]; exact H) | exact H
 have Ny166 := am hy166; clear hy166
 have H' := am H
 clear H; go_enter Try.func70, Try.ntmps70
 go_wp2_with (first | ((with_reducible refine gate_dst (N := 6) rfl ?_); refine Kd.R_lit Kd.string _ 9 ?hg (N := 6) ?hd (xs := ([] : List ByteArray)) (inner := []) (ok := fun _ => True) (okp := fun _ => True) ?hr ?hp (fun _ hk => hk) trivial (Below.refl _ _) (Nat.le_refl _) (by simp) ?_; (case hd => rfl); (case hg => rfl); (case hr => first | (go_simp; done) | (go_simp; rfl)); (case hp => exact (Reps.none _ _)); intro v167 w2 ho3 hb hg_ hnew_; clear hg_ hnew_; (first | rw [← Ny166.out] at ho3 | (simp only [Int.reduceToNat] at ho3; rw [← Ny166.out] at ho3) | (simp only [Int.toNat_natCast] at ho3; rw [← Ny166.out] at ho3)); have HO168 := am (Kd.R_lower (Kd.R_newM (M := fun k_ => (w.heap.size ≤ k_)) ho3 (below_size bel) (fun k_ h_ => h_)) (below_size bel)); replace HB := am (below_step bel hb); clear hb ho3))
 go_loopg [3, 4] k (fun kq v3 v4 w' => ∃ (x3_1 : List ByteArray) (x4_1 : Int), v4 = .int .i64 x4_1 ∧ Aside0 (spec_l1Near.l0 kq a0 x3_1 x4_1 = some r) ∧ Aside0 (kq ≤ k) ∧ Aside0 (Kd.V Kd.string 9 w' w.heap.size (fun k_ => (w.heap.size ≤ k_)) v3 x3_1) ∧ Aside0 (Below w.heap.size w w'))
 case atStart => exact ⟨(y166), (0), sq, H', ⟨Nat.le_refl _⟩, ⟨Kd.R_V (rq (Kd.R_mono HO168.out (fun _ hk => hk.1)))⟩, ⟨bel⟩⟩
 case round =>
  clear H'; (try clear p2); obtain ⟨x3_1, x4_1, rfl, HA, HK1, HO_3, HB⟩ := hrel
  cases gk with
  | zero => exact absurd HA.out (by simp [spec_l1Near.l0])
  | succ k1 =>
   have H := HA.out; clear HA
   simp only [spec_l1Near.l0] at H
   by_cases c4 : x4_1 ≤ (a0.size : Int)
   ·rw [if_pos c4] at H; have c4b0 := decide_eq_true c4; clear c4
    have H' := am H
    clear H; go_wp2
    go_loopg [3, 5] k1 (fun kq v3 v5 w' => ∃ (x3_2 : List ByteArray) (x5_2 : Int), v5 = .int .i32 x5_2 ∧ Aside0 (spec_l1Near.l1 kq a0 x3_2 x4_1 x5_2 = some r) ∧ Aside0 (kq ≤ k1) ∧ Aside0 (Kd.V Kd.string 9 w' w.heap.size (fun k_ => (w.heap.size ≤ k_)) v3 x3_2) ∧ Aside0 (Below w.heap.size w w'))
    case atStart => exact ⟨(x3_1), (97), sq, H', ⟨Nat.le_refl _⟩, ⟨vq HO_3.out⟩, ⟨bel⟩⟩
    case round =>
     clear H'; (try clear p2); (try clear c4); (try clear c4b0); (try clear p2); obtain ⟨x3_2, x5_2, rfl, HA, HK2, HO_3, HB⟩ := hrel
     cases gk with
     | zero => exact absurd HA.out (by simp [spec_l1Near.l1])
     | succ k2 =>
      have H := HA.out; clear HA
      simp only [spec_l1Near.l1] at H
      by_cases c5 : x5_2 ≤ 122
      ·rw [if_pos c5] at H; have c5b0 := decide_eq_true c5; clear c5
       replace H := ip H; obtain ⟨c6, H⟩ := H; have c6b0 := eq_true c6
       have c6b1 : decide (0 ≤ x4_1) = true := decide_eq_true c6
       clear c6
       replace H := ip H; obtain ⟨c7, H⟩ := H; have c7b0 := eq_true c7
       have c7b1 : decide (x4_1 ≤ (a0.size : Int)) = true := decide_eq_true c7
       clear c7; obtain ⟨y169, hy169⟩ : ∃ y_ : List Int, y_ = (([(x5_2) % 256] : List Int)) := ⟨_, rfl⟩
       replace H : (if (a0.extract 0 (x4_1 : Int).toNat).size + (strOfNums y169).size ≤ 9223372036854775807 then (if ((a0.extract 0 (x4_1 : Int).toNat) ++ (strOfNums y169)).size + (a0.extract (x4_1 : Int).toNat a0.size).size ≤ 9223372036854775807 then ((spec_l1Step.f k2 x3_2 a0 (((a0.extract 0 (x4_1 : Int).toNat) ++ (strOfNums y169)) ++ (a0.extract (x4_1 : Int).toNat a0.size))).bind fun t172 => (if x4_1 < (a0.size : Int) then ((some (([(x5_2) % 256] : List Int) : List Int)).bind fun y175 => (if (a0.extract 0 (x4_1 : Int).toNat).size + (strOfNums y175).size ≤ 9223372036854775807 then (if 0 ≤ (wrap64 (x4_1 + 1)) then (if (wrap64 (x4_1 + 1)) ≤ (a0.size : Int) then (if ((a0.extract 0 (x4_1 : Int).toNat) ++ (strOfNums y175)).size + (a0.extract ((wrap64 (x4_1 + 1)) : Int).toNat a0.size).size ≤ 9223372036854775807 then ((spec_l1Step.f k2 t172 a0 (((a0.extract 0 (x4_1 : Int).toNat) ++ (strOfNums y175)) ++ (a0.extract ((wrap64 (x4_1 + 1)) : Int).toNat a0.size))).bind fun t178 => (spec_l1Near.l1 k2 a0 t178 x4_1 (wrap32 (x5_2 + 1)))) else (none)) else (none)) else (none)) else (none))) else (spec_l1Near.l1 k2 a0 t172 x4_1 (wrap32 (x5_2 + 1))))) else (none)) else (none)) = some r := by first | (rw [hy169]; with_reducible exact H) | (have H2_ := bm H; rw [hy169]; with_reducible exact H2_) | (with_reducible exact bm H) | with_reducible exact H | (rw [hy169]; exact H) | exact H
       have Ny169 := am hy169; clear hy169
       replace H := ip H; obtain ⟨c8, H⟩ := H; have c8b0 := eq_true c8; have c8b5 := c8
       try simp at c8b5
       try have c8b4 := eq_false (Nat.not_lt.2 c8b5)
       try have c8b3 : (9223372036854775807 < (x4_1 : Int).toNat + (strOfNums y169).size) = False := by
             have h_ := c8
             simp only [ByteArray.size_append, ByteArray.size_extract] at h_
             have g0_ : (x4_1) ≤ (a0.size : Int) := of_decide_eq_true ad
             exact eq_false (by omega)
       have c8b1 : decide ((a0.extract 0 (x4_1 : Int).toNat).size + (strOfNums y169).size ≤ 9223372036854775807) = true := decide_eq_true c8
       try have c8b2 : (9223372036854775807 < (a0.extract 0 (x4_1 : Int).toNat).size + (strOfNums y169).size) = False := eq_false (Nat.not_lt.2 c8)
       have c9b0 := eq_true (of_decide_eq_true ad : 0 ≤ x4_1); have c10b0 := eq_true (of_decide_eq_true ad : x4_1 ≤ (a0.size : Int))
       replace H := ip H; obtain ⟨c11, H⟩ := H; have c11b0 := eq_true c11; have c11b5 := c11
       try simp at c11b5
       try have c11b4 := eq_false (Nat.not_lt.2 c11b5)
       try have c11b3 : (9223372036854775807 < (x4_1 : Int).toNat + (strOfNums y169).size + (a0.size - (x4_1 : Int).toNat)) = False := by
             have h_ := c11
             simp only [ByteArray.size_append, ByteArray.size_extract] at h_
             have g0_ : (x4_1) ≤ (a0.size : Int) := of_decide_eq_true ad
             exact eq_false (by omega)
       have c11b1 : decide (((a0.extract 0 (x4_1 : Int).toNat) ++ (strOfNums y169)).size + (a0.extract (x4_1 : Int).toNat a0.size).size ≤ 9223372036854775807) = true := decide_eq_true c11
       try have c11b2 : (9223372036854775807 < ((a0.extract 0 (x4_1 : Int).toNat) ++ (strOfNums y169)).size + (a0.extract (x4_1 : Int).toNat a0.size).size) = False := eq_false (Nat.not_lt.2 c11)
       replace H := bs H; obtain ⟨t172, A120, H⟩ := H; replace H : (if x4_1 < (a0.size : Int) then ((some (([(x5_2) % 256] : List Int) : List Int)).bind fun y175 => (if (a0.extract 0 (x4_1 : Int).toNat).size + (strOfNums y175).size ≤ 9223372036854775807 then (if 0 ≤ (wrap64 (x4_1 + 1)) then (if (wrap64 (x4_1 + 1)) ≤ (a0.size : Int) then (if ((a0.extract 0 (x4_1 : Int).toNat) ++ (strOfNums y175)).size + (a0.extract ((wrap64 (x4_1 + 1)) : Int).toNat a0.size).size ≤ 9223372036854775807 then ((spec_l1Step.f k2 t172 a0 (((a0.extract 0 (x4_1 : Int).toNat) ++ (strOfNums y175)) ++ (a0.extract ((wrap64 (x4_1 + 1)) : Int).toNat a0.size))).bind fun t178 => (spec_l1Near.l1 k2 a0 t178 x4_1 (wrap32 (x5_2 + 1)))) else (none)) else (none)) else (none)) else (none))) else (spec_l1Near.l1 k2 a0 t172 x4_1 (wrap32 (x5_2 + 1)))) = some r := H; have A12 := Aside0.mk A120; clear A120
       by_cases c13 : x4_1 < (a0.size : Int)
       ·rw [if_pos c13] at H; have c13b0 := decide_eq_true c13; clear c13; have c14b0 := eq_true (of_decide_eq_true ad : 0 ≤ x4_1); have c15b0 := eq_true (of_decide_eq_true ad : x4_1 ≤ (a0.size : Int)); obtain ⟨y175, hy175⟩ : ∃ y_ : List Int, y_ = (([(x5_2) % 256] : List Int)) := ⟨_, rfl⟩
        replace H : (if (a0.extract 0 (x4_1 : Int).toNat).size + (strOfNums y175).size ≤ 9223372036854775807 then (if 0 ≤ (wrap64 (x4_1 + 1)) then (if (wrap64 (x4_1 + 1)) ≤ (a0.size : Int) then (if ((a0.extract 0 (x4_1 : Int).toNat) ++ (strOfNums y175)).size + (a0.extract ((wrap64 (x4_1 + 1)) : Int).toNat a0.size).size ≤ 9223372036854775807 then ((spec_l1Step.f k2 t172 a0 (((a0.extract 0 (x4_1 : Int).toNat) ++ (strOfNums y175)) ++ (a0.extract ((wrap64 (x4_1 + 1)) : Int).toNat a0.size))).bind fun t178 => (spec_l1Near.l1 k2 a0 t178 x4_1 (wrap32 (x5_2 + 1)))) else (none)) else (none)) else (none)) else (none)) = some r := by first | (rw [hy175]; with_reducible exact H) | (have H2_ := bm H; rw [hy175]; with_reducible exact H2_) | (with_reducible exact bm H) | with_reducible exact H | (rw [hy175]; exact H) | exact H
        have Ny175 := am hy175; clear hy175
        replace H := ip H; obtain ⟨c16, H⟩ := H; have c16b0 := eq_true c16; have c16b5 := c16
        try simp at c16b5
        try have c16b4 := eq_false (Nat.not_lt.2 c16b5)
        try have c16b3 : (9223372036854775807 < (x4_1 : Int).toNat + (strOfNums y175).size) = False := by
              have h_ := c16
              simp only [ByteArray.size_append, ByteArray.size_extract] at h_
              have g0_ : (x4_1) ≤ (a0.size : Int) := of_decide_eq_true ad
              exact eq_false (by omega)
        have c16b1 : decide ((a0.extract 0 (x4_1 : Int).toNat).size + (strOfNums y175).size ≤ 9223372036854775807) = true := decide_eq_true c16
        try have c16b2 : (9223372036854775807 < (a0.extract 0 (x4_1 : Int).toNat).size + (strOfNums y175).size) = False := eq_false (Nat.not_lt.2 c16)
        obtain ⟨ji17, hji17⟩ : ∃ j_ : Int, (wrap64 (x4_1 + 1)) = j_ := ⟨_, rfl⟩
        replace H : (if 0 ≤ (ji17) then (if (ji17) ≤ (a0.size : Int) then (if ((a0.extract 0 (x4_1 : Int).toNat) ++ (strOfNums y175)).size + (a0.extract ((ji17) : Int).toNat a0.size).size ≤ 9223372036854775807 then ((spec_l1Step.f k2 t172 a0 (((a0.extract 0 (x4_1 : Int).toNat) ++ (strOfNums y175)) ++ (a0.extract ((ji17) : Int).toNat a0.size))).bind fun t178 => (spec_l1Near.l1 k2 a0 t178 x4_1 (wrap32 (x5_2 + 1)))) else (none)) else (none)) else (none)) = some r := by first | (rw [hji17] at H; exact H) | (simp only [hji17] at H ⊢; exact H)
        (try rw [hji17] at A12)
        have hji17w : (IntKind.i64.wrap (x4_1 + 1)) = ji17 := (i64_w _).trans hji17
        replace H := ip H; obtain ⟨c18, H⟩ := H; have c18b0 := eq_true c18
        have c18b1 : decide (0 ≤ (ji17)) = true := decide_eq_true c18
        clear c18
        replace H := ip H; obtain ⟨c19, H⟩ := H; have c19b0 := eq_true c19
        have c19b1 : decide ((ji17) ≤ (a0.size : Int)) = true := decide_eq_true c19
        clear c19
        replace H := ip H; obtain ⟨c20, H⟩ := H; have c20b0 := eq_true c20; have c20b5 := c20
        try simp at c20b5
        try have c20b4 := eq_false (Nat.not_lt.2 c20b5)
        try have c20b3 : (9223372036854775807 < (x4_1 : Int).toNat + (strOfNums y175).size + (a0.size - ((ji17) : Int).toNat)) = False := by
              have h_ := c20
              simp only [ByteArray.size_append, ByteArray.size_extract] at h_
              have g0_ : (x4_1) ≤ (a0.size : Int) := of_decide_eq_true ad
              exact eq_false (by omega)
        have c20b1 : decide (((a0.extract 0 (x4_1 : Int).toNat) ++ (strOfNums y175)).size + (a0.extract ((ji17) : Int).toNat a0.size).size ≤ 9223372036854775807) = true := decide_eq_true c20
        try have c20b2 : (9223372036854775807 < ((a0.extract 0 (x4_1 : Int).toNat) ++ (strOfNums y175)).size + (a0.extract ((ji17) : Int).toNat a0.size).size) = False := eq_false (Nat.not_lt.2 c20)
        replace H := bs H; obtain ⟨t178, A210, H⟩ := H; replace H : (spec_l1Near.l1 k2 a0 t178 x4_1 (wrap32 (x5_2 + 1))) = some r := H; have A21 := Aside0.mk A210; clear A210
        have H' := am H
        clear H
        try go_wp2
        replace HO_3 := am (Kd.V_drew HO_3.out); replace HB := am (below_drew1 HB.out)
        refine st (n := 16) (S := fun w' => True) (ds := []) trivial (fun hHeld => ?_); refine with_tabW spec_l1Near.tab8 spec_l1Near.bits8 (fun HT_ HW_ => ?_)
        generalize wr.drew = w22 at HO_3 HB hHeld ⊢
        refine pu 0 17 ?_
        refine pu 1 18 ?_
        refine pu 2 19 ?_
        refine pu 3 20 ?_
        refine pu 4 21 ?_
        refine pu 5 22 ?_
        refine pu 6 23 ?_
        refine pu 10 27 ?_
        refine pu 11 28 ?_
        refine pu 12 29 ?_
        refine on1 7 24 (fun K hK => ?_)
        refine Kd.R_lit_step (Kd.int .u8) _ 5 ?hg (N := 24) ?hd (xs := ([(x5_2) % 256] : List Int)) (inner := [.int .u8 ((x5_2) % 256)]) (ok := fun _ => True) (okp := fun _ => True) ?hr ?hp (fun _ hk => hk) trivial (Below.refl _ _) (Nat.le_refl _) (by simp) ?_; (case hd => rfl); (case hg => rfl); (case hr => first | (go_simp; done) | (go_simp; rfl)); (case hp => exact (Reps.one (show Kd.M (Kd.int .u8) _ _ _ ((x5_2) % 256) [.int .u8 ((x5_2) % 256)] from rfl) (Reps.none _ _)))
        intro v170 w23 ho24 hb hg_ hnew_; clear hg_ hnew_
        (first | rw [← Ny169.out] at ho24 | (simp only [Int.reduceToNat] at ho24; rw [← Ny169.out] at ho24) | (simp only [Int.toNat_natCast] at ho24; rw [← Ny169.out] at ho24))
        replace HO_3 := am (Kd.V_elder' (vq HO_3.out) (Kd.R_base ho24) hb); have HO171 := am (Kd.R_lower (Kd.R_newM (M := fun k_ => (w.heap.size ≤ k_)) ho24 (below_size bel) (fun k_ h_ => h_)) (below_size bel)); replace HB := am (below_step bel hb); clear hb ho24; obtain ⟨Ao26, co26, eo26⟩ := Kd.V_slice HO_3.out
        (first | subst eo26 | (injection eo26 with f1_ f2_ f3_; have f4_ := f1_.symm; have f5_ := f3_.symm; clear f1_ f2_ f3_; subst f4_; subst f5_))
        refine hK.out _ _ trivial (fun hHeld => ?_)
        clear hK K
        refine norm_ (a' := ?_) ?_ ?_
        rotate_left
        ·show Act.put _ (some 24) _ = _
         simp only [Act.put, List.setIfInBounds_toArray, List.set_cons_zero, List.set_cons_succ, i64_w, i32_w]
         rfl
        refine on1 8 25 (fun K hK => ?_)
        have hcv25 := own_string (P := Try.prog) Try.underlying31 Try.underlying5 Try.underlying9 (Kd.own_of_R HO171.out)
        refine value_ (w1 := ?_) (v := ?_) (by rfl) rfl ?_ ?_
        rotate_left 2
        ·go_simp
         constructor
         ·rfl
         ·rfl
        clear hcv25
        refine hK.out _ _ trivial (fun hHeld => ?_)
        clear hK K
        refine norm_ (a' := ?_) ?_ ?_
        rotate_left
        ·show Act.put _ (some 25) _ = _
         simp only [Act.put, List.setIfInBounds_toArray, List.set_cons_zero, List.set_cons_succ, i64_w, i32_w]
         rfl
        refine pu 9 26 ?_
        refine pu 13 30 ?_
        refine on1 14 31 (fun K hK => ?_)
        refine goes_ Try.func113 (by kernel_rfl) rfl #[.slice Ao26 x3_2.length co26, .string a0, .string (((a0.extract 0 (x4_1 : Int).toNat) ++ (strOfNums y169)) ++ (a0.extract (x4_1 : Int).toNat a0.size))] (by rfl) rfl rfl mq ?_
        with_reducible refine (spec_l1Step.calls k2 (fun k_ => ((w.heap.size ≤ k_) ∧ some k_ ≠ (v170 : Value).ownBlock)) _ _ x3_2 a0 (((a0.extract 0 (x4_1 : Int).toNat) ++ (strOfNums y169)) ++ (a0.extract (x4_1 : Int).toNat a0.size)) t172 _ ?side1 A12.out).mono ?_
        (case side1 => exact HO_3.out)
        rintro e w27 ⟨v173, rfl, ho0, hb⟩
        refine ⟨_, rfl, ?_⟩
        replace HO_3 := am (Kd.V_below (vq HO_3.out) hb); have HO174 := am (Kd.V_lower (Kd.V_mono (ok' := fun k_ => (w.heap.size ≤ k_) ∧ some k_ ≠ (v170 : Value).ownBlock) ho0 (fun k_ hk_ => ⟨Or.elim hk_ (fun hs_ => hs_.1) (fun hn_ => (Nat.le_trans (below_size bel) hn_)), Or.elim hk_ (fun hs_ => hs_.2) (fun hn_ => (Kd.fresh' (Kd.R_lt (rq HO171.out)) k_ hn_))⟩)) (below_size bel)); replace HO171 := am (Kd.R_below (rq HO171.out) hb); replace HB := am (below_step bel hb)
        (try clear hb)
        (try clear hb2)
        (try clear hk)
        (try clear hi)
        (try clear ho0)
        refine hK.out _ _ trivial (fun hHeld => ?_)
        clear hK K
        refine norm_ (a' := ?_) ?_ ?_
        rotate_left
        ·show Act.put _ (some 31) _ = _
         simp only [Act.put, List.setIfInBounds_toArray, List.set_cons_zero, List.set_cons_succ, i64_w, i32_w]
         rfl
        refine pu 15 3 ?_
        refine done_ (done_of HT_.out (by kernel_rfl)) ?_
        try go_wp2
        replace HO_3 := am (Kd.V_drew HO_3.out); replace HO171 := am (Kd.R_drew HO171.out); replace HO174 := am (Kd.V_drew HO174.out); replace HB := am (below_drew1 HB.out)
        refine st (n := 17) (S := fun w' => True) (ds := []) trivial (fun hHeld => ?_); refine with_tabW spec_l1Near.tab10 spec_l1Near.bits10 (fun HT_ HW_ => ?_)
        generalize w27.drew = w28 at HO_3 HO171 HO174 HB hHeld ⊢
        refine pu 0 36 ?_
        refine pu 1 37 ?_
        refine pu 2 38 ?_
        refine pu 3 39 ?_
        refine pu 4 40 ?_
        refine pu 5 41 ?_
        refine pu 6 42 ?_
        refine pu 10 46 ?_
        refine pu 11 47 ?_
        refine pu 12 48 ?_
        refine pu 13 49 ?_
        refine on1 7 43 (fun K hK => ?_)
        refine Kd.R_lit_step (Kd.int .u8) _ 5 ?hg (N := 43) ?hd (xs := ([(x5_2) % 256] : List Int)) (inner := [.int .u8 ((x5_2) % 256)]) (ok := fun _ => True) (okp := fun _ => True) ?hr ?hp (fun _ hk => hk) trivial (Below.refl _ _) (Nat.le_refl _) (by simp) ?_; (case hd => rfl); (case hg => rfl); (case hr => first | (go_simp; done) | (go_simp; rfl)); (case hp => exact (Reps.one (show Kd.M (Kd.int .u8) _ _ _ ((x5_2) % 256) [.int .u8 ((x5_2) % 256)] from rfl) (Reps.none _ _)))
        intro v176 w29 ho30 hb hg_ hnew_; clear hg_ hnew_
        (first | rw [← Ny175.out] at ho30 | (simp only [Int.reduceToNat] at ho30; rw [← Ny175.out] at ho30) | (simp only [Int.toNat_natCast] at ho30; rw [← Ny175.out] at ho30))
        replace HO_3 := am (Kd.V_elder' (vq HO_3.out) (Kd.R_base ho30) hb); replace HO174 := am (Kd.V_elder' (vq HO174.out) (Kd.R_base ho30) hb); have HO177 := am (Kd.R_lower (Kd.R_new' (Kd.R_newM (M := fun k_ => (w.heap.size ≤ k_)) ho30 (below_size bel) (fun k_ h_ => h_)) (Kd.R_lt (rq HO171.out))) (below_size bel)); replace HO171 := am (Kd.R_elder' (rq HO171.out) (Kd.R_base ho30) hb); replace HB := am (below_step bel hb); clear hb ho30; obtain ⟨Ao32, co32, eo32⟩ := Kd.V_slice HO174.out
        (first | subst eo32 | (injection eo32 with f1_ f2_ f3_; have f4_ := f1_.symm; have f5_ := f3_.symm; clear f1_ f2_ f3_; subst f4_; subst f5_))
        refine hK.out _ _ trivial (fun hHeld => ?_)
        clear hK K
        refine norm_ (a' := ?_) ?_ ?_
        rotate_left
        ·show Act.put _ (some 43) _ = _
         simp only [Act.put, List.setIfInBounds_toArray, List.set_cons_zero, List.set_cons_succ, i64_w, i32_w]
         rfl
        refine on1 8 44 (fun K hK => ?_)
        have hcv31 := own_string (P := Try.prog) Try.underlying31 Try.underlying5 Try.underlying9 (Kd.own_of_R HO177.out)
        refine value_ (w1 := ?_) (v := ?_) (by rfl) rfl ?_ ?_
        rotate_left 2
        ·go_simp
         constructor
         ·rfl
         ·rfl
        clear hcv31
        refine hK.out _ _ trivial (fun hHeld => ?_)
        clear hK K
        refine norm_ (a' := ?_) ?_ ?_
        rotate_left
        ·show Act.put _ (some 44) _ = _
         simp only [Act.put, List.setIfInBounds_toArray, List.set_cons_zero, List.set_cons_succ, i64_w, i32_w]
         rfl
        refine pu 9 45 ?_
        refine pu 14 50 ?_
        refine on1 15 51 (fun K hK => ?_)
        refine goes_ Try.func113 (by kernel_rfl) rfl #[.slice Ao32 t172.length co32, .string a0, .string (((a0.extract 0 (x4_1 : Int).toNat) ++ (strOfNums y175)) ++ (a0.extract ((ji17) : Int).toNat a0.size))] (by rfl) rfl rfl (by (try simp only [List.map_toArray, List.map_cons, List.map_nil]); first | done | (simp only [hji17]; rfl) | rfl | (simp only [List.length_drop, List.length_take]; rfl)) ?_
        with_reducible refine (spec_l1Step.calls k2 (fun k_ => (((w.heap.size ≤ k_) ∧ some k_ ≠ (v170 : Value).ownBlock) ∧ some k_ ≠ (v176 : Value).ownBlock)) _ _ t172 a0 (((a0.extract 0 (x4_1 : Int).toNat) ++ (strOfNums y175)) ++ (a0.extract ((ji17) : Int).toNat a0.size)) t178 _ ?side1 A21.out).mono ?_
        (case side1 => exact HO174.out)
        rintro e w33 ⟨v179, rfl, ho0, hb⟩
        refine ⟨_, rfl, ?_⟩
        replace HO_3 := am (Kd.V_below (vq HO_3.out) hb); replace HO174 := am (Kd.V_below (vq HO174.out) hb); have HO180 := am (Kd.V_lower (Kd.V_mono (ok' := fun k_ => (w.heap.size ≤ k_) ∧ some k_ ≠ (v170 : Value).ownBlock ∧ some k_ ≠ (v176 : Value).ownBlock) ho0 (fun k_ hk_ => ⟨Or.elim hk_ (fun hs_ => hs_.1.1) (fun hn_ => (Nat.le_trans (below_size bel) hn_)), Or.elim hk_ (fun hs_ => hs_.1.2) (fun hn_ => (Kd.fresh' (Kd.R_lt (rq HO171.out)) k_ hn_)), Or.elim hk_ (fun hs_ => hs_.2) (fun hn_ => (Kd.fresh' (Kd.R_lt (rq HO177.out)) k_ hn_))⟩)) (below_size bel)); replace HO171 := am (Kd.R_below (rq HO171.out) hb); replace HO177 := am (Kd.R_below (rq HO177.out) hb); replace HB := am (below_step bel hb)
        (try clear hb)
        (try clear hb2)
        (try clear hk)
        (try clear hi)
        (try clear ho0)
        refine hK.out _ _ trivial (fun hHeld => ?_)
        clear hK K
        refine norm_ (a' := ?_) ?_ ?_
        rotate_left
        ·show Act.put _ (some 51) _ = _
         simp only [Act.put, List.setIfInBounds_toArray, List.set_cons_zero, List.set_cons_succ, i64_w, i32_w]
         rfl
        refine pu 16 3 ?_
        refine done_ (done_of HT_.out (by kernel_rfl)) ?_
        try go_wp2
        go_roundg k2
        case measure => have := HK1.out; have := HK2.out; omega
        case rel => exact ⟨(t178), (wrap32 (x5_2 + 1)), sq, H', ⟨b15_⟩, ⟨vq (Kd.V_mono HO180.out (fun _ hk => hk.1))⟩, ⟨bel⟩⟩
       rw [if_neg c13] at H; have c13b0 := decide_eq_false c13; clear c13
       have H' := am H
       clear H
       try go_wp2
       replace HO_3 := am (Kd.V_drew HO_3.out); replace HB := am (below_drew1 HB.out)
       refine st (n := 16) (S := fun w' => True) (ds := []) trivial (fun hHeld => ?_); refine with_tabW spec_l1Near.tab8 spec_l1Near.bits8 (fun HT_ HW_ => ?_)
       generalize wr.drew = w34 at HO_3 HB hHeld ⊢
       refine pu 0 17 ?_
       refine pu 1 18 ?_
       refine pu 2 19 ?_
       refine pu 3 20 ?_
       refine pu 4 21 ?_
       refine pu 5 22 ?_
       refine pu 6 23 ?_
       refine pu 10 27 ?_
       refine pu 11 28 ?_
       refine pu 12 29 ?_
       refine on1 7 24 (fun K hK => ?_)
       refine Kd.R_lit_step (Kd.int .u8) _ 5 ?hg (N := 24) ?hd (xs := ([(x5_2) % 256] : List Int)) (inner := [.int .u8 ((x5_2) % 256)]) (ok := fun _ => True) (okp := fun _ => True) ?hr ?hp (fun _ hk => hk) trivial (Below.refl _ _) (Nat.le_refl _) (by simp) ?_; (case hd => rfl); (case hg => rfl); (case hr => first | (go_simp; done) | (go_simp; rfl)); (case hp => exact (Reps.one (show Kd.M (Kd.int .u8) _ _ _ ((x5_2) % 256) [.int .u8 ((x5_2) % 256)] from rfl) (Reps.none _ _)))
       intro v170 w35 ho36 hb hg_ hnew_; clear hg_ hnew_
       (first | rw [← Ny169.out] at ho36 | (simp only [Int.reduceToNat] at ho36; rw [← Ny169.out] at ho36) | (simp only [Int.toNat_natCast] at ho36; rw [← Ny169.out] at ho36))
       replace HO_3 := am (Kd.V_elder' (vq HO_3.out) (Kd.R_base ho36) hb); have HO171 := am (Kd.R_lower (Kd.R_newM (M := fun k_ => (w.heap.size ≤ k_)) ho36 (below_size bel) (fun k_ h_ => h_)) (below_size bel)); replace HB := am (below_step bel hb); clear hb ho36; obtain ⟨Ao38, co38, eo38⟩ := Kd.V_slice HO_3.out
       (first | subst eo38 | (injection eo38 with f1_ f2_ f3_; have f4_ := f1_.symm; have f5_ := f3_.symm; clear f1_ f2_ f3_; subst f4_; subst f5_))
       refine hK.out _ _ trivial (fun hHeld => ?_)
       clear hK K
       refine norm_ (a' := ?_) ?_ ?_
       rotate_left
       ·show Act.put _ (some 24) _ = _
        simp only [Act.put, List.setIfInBounds_toArray, List.set_cons_zero, List.set_cons_succ, i64_w, i32_w]
        rfl
       refine on1 8 25 (fun K hK => ?_)
       have hcv37 := own_string (P := Try.prog) Try.underlying31 Try.underlying5 Try.underlying9 (Kd.own_of_R HO171.out)
       refine value_ (w1 := ?_) (v := ?_) (by rfl) rfl ?_ ?_
       rotate_left 2
       ·go_simp
        constructor
        ·rfl
        ·rfl
       clear hcv37
       refine hK.out _ _ trivial (fun hHeld => ?_)
       clear hK K
       refine norm_ (a' := ?_) ?_ ?_
       rotate_left
       ·show Act.put _ (some 25) _ = _
        simp only [Act.put, List.setIfInBounds_toArray, List.set_cons_zero, List.set_cons_succ, i64_w, i32_w]
        rfl
       refine pu 9 26 ?_
       refine pu 13 30 ?_
       refine on1 14 31 (fun K hK => ?_)
       refine goes_ Try.func113 (by kernel_rfl) rfl #[.slice Ao38 x3_2.length co38, .string a0, .string (((a0.extract 0 (x4_1 : Int).toNat) ++ (strOfNums y169)) ++ (a0.extract (x4_1 : Int).toNat a0.size))] (by rfl) rfl rfl mq ?_
       with_reducible refine (spec_l1Step.calls k2 (fun k_ => ((w.heap.size ≤ k_) ∧ some k_ ≠ (v170 : Value).ownBlock)) _ _ x3_2 a0 (((a0.extract 0 (x4_1 : Int).toNat) ++ (strOfNums y169)) ++ (a0.extract (x4_1 : Int).toNat a0.size)) t172 _ ?side1 A12.out).mono ?_
       (case side1 => exact HO_3.out)
       rintro e w39 ⟨v173, rfl, ho0, hb⟩
       refine ⟨_, rfl, ?_⟩
       replace HO_3 := am (Kd.V_below (vq HO_3.out) hb); have HO174 := am (Kd.V_lower (Kd.V_mono (ok' := fun k_ => (w.heap.size ≤ k_) ∧ some k_ ≠ (v170 : Value).ownBlock) ho0 (fun k_ hk_ => ⟨Or.elim hk_ (fun hs_ => hs_.1) (fun hn_ => (Nat.le_trans (below_size bel) hn_)), Or.elim hk_ (fun hs_ => hs_.2) (fun hn_ => (Kd.fresh' (Kd.R_lt (rq HO171.out)) k_ hn_))⟩)) (below_size bel)); replace HO171 := am (Kd.R_below (rq HO171.out) hb); replace HB := am (below_step bel hb)
       (try clear hb)
       (try clear hb2)
       (try clear hk)
       (try clear hi)
       (try clear ho0)
       refine hK.out _ _ trivial (fun hHeld => ?_)
       clear hK K
       refine norm_ (a' := ?_) ?_ ?_
       rotate_left
       ·show Act.put _ (some 31) _ = _
        simp only [Act.put, List.setIfInBounds_toArray, List.set_cons_zero, List.set_cons_succ, i64_w, i32_w]
        rfl
       refine pu 15 3 ?_
       refine done_ (done_of HT_.out (by kernel_rfl)) ?_
       try go_wp2
       go_roundg k2
       case measure => have := HK1.out; have := HK2.out; omega
       case rel => exact ⟨(t172), (wrap32 (x5_2 + 1)), sq, H', ⟨b15_⟩, ⟨vq (Kd.V_mono HO174.out (fun _ hk => hk.1))⟩, ⟨bel⟩⟩
      rw [if_neg c5] at H; have c5b0 := decide_eq_false c5; clear c5; have HC40 := am H; clear H
      go_upto_if 55 with (fail)
      go_cut [3] (fun v3 wc => ∃ (kq : Nat) (x3_39 : List ByteArray), Aside0 (spec_l1Near.j2 kq a0 x3_39 x4_1 = some r) ∧ Aside0 (kq ≤ k2) ∧ Aside0 (Kd.V Kd.string 9 wc w.heap.size (fun k_ => (w.heap.size ≤ k_)) v3 x3_39) ∧ Aside0 (Below w.heap.size w wc))
      case first =>
       have H := HC40.out; clear HC40
       by_cases c41 : x4_1 < (a0.size : Int)
       ·rw [if_pos c41] at H; have c41b0 := decide_eq_true c41; clear c41
        (first | rw [c41b0] | (simp only [i64_w, i32_w]; rw [c41b0]) | skip)
        replace H := ip H; obtain ⟨c42, H⟩ := H; have c42b0 := eq_true c42
        have c42b1 : decide (0 ≤ x4_1) = true := decide_eq_true c42
        clear c42
        replace H := ip H; obtain ⟨c43, H⟩ := H; have c43b0 := eq_true c43
        have c43b1 : decide (x4_1 ≤ (a0.size : Int)) = true := decide_eq_true c43
        clear c43; obtain ⟨ji44, hji44⟩ : ∃ j_ : Int, (wrap64 (x4_1 + 1)) = j_ := ⟨_, rfl⟩
        replace H : (if 0 ≤ (ji44) then (if (ji44) ≤ (a0.size : Int) then (if (a0.extract 0 (x4_1 : Int).toNat).size + (a0.extract ((ji44) : Int).toNat a0.size).size ≤ 9223372036854775807 then ((spec_l1Step.f k2 x3_2 a0 ((a0.extract 0 (x4_1 : Int).toNat) ++ (a0.extract ((ji44) : Int).toNat a0.size))).bind fun t181 => (spec_l1Near.j2 k2 a0 t181 x4_1)) else (none)) else (none)) else (none)) = some r := by first | (rw [hji44] at H; exact H) | (simp only [hji44] at H ⊢; exact H)
        have hji44w : (IntKind.i64.wrap (x4_1 + 1)) = ji44 := (i64_w _).trans hji44
        (try clear hji17w)
        replace H := ip H; obtain ⟨c45, H⟩ := H; have c45b0 := eq_true c45
        have c45b1 : decide (0 ≤ (ji44)) = true := decide_eq_true c45
        clear c45
        replace H := ip H; obtain ⟨c46, H⟩ := H; have c46b0 := eq_true c46
        have c46b1 : decide ((ji44) ≤ (a0.size : Int)) = true := decide_eq_true c46
        clear c46
        replace H := ip H; obtain ⟨c47, H⟩ := H; have c47b0 := eq_true c47; have c47b5 := c47
        try simp at c47b5
        try have c47b4 := eq_false (Nat.not_lt.2 c47b5)
        try have c47b3 : (9223372036854775807 < (x4_1 : Int).toNat + (a0.size - ((ji44) : Int).toNat)) = False := by
              have h_ := c47
              simp only [ByteArray.size_append, ByteArray.size_extract] at h_
              have g0_ : (x4_1) ≤ (a0.size : Int) := of_decide_eq_true ad
              exact eq_false (by omega)
        have c47b1 : decide ((a0.extract 0 (x4_1 : Int).toNat).size + (a0.extract ((ji44) : Int).toNat a0.size).size ≤ 9223372036854775807) = true := decide_eq_true c47
        try have c47b2 : (9223372036854775807 < (a0.extract 0 (x4_1 : Int).toNat).size + (a0.extract ((ji44) : Int).toNat a0.size).size) = False := eq_false (Nat.not_lt.2 c47)
        replace H := bs H; obtain ⟨t181, A480, H⟩ := H; replace H : (spec_l1Near.j2 k2 a0 t181 x4_1) = some r := H; have A48 := Aside0.mk A480; clear A480
        have H' := am H
        clear H
        try go_wp2
        replace HO_3 := am (Kd.V_drew HO_3.out); replace HB := am (below_drew1 HB.out); obtain ⟨Ao50, co50, eo50⟩ := Kd.V_slice HO_3.out
        (first | subst eo50 | (injection eo50 with f1_ f2_ f3_; have f4_ := f1_.symm; have f5_ := f3_.symm; clear f1_ f2_ f3_; subst f4_; subst f5_))
        refine st (n := 12) (S := fun w' => True) (ds := []) trivial (fun hHeld => ?_); refine with_tabW spec_l1Near.tab12 spec_l1Near.bits12 (fun HT_ HW_ => ?_)
        generalize wr.drew = w49 at HO_3 HB hHeld ⊢
        refine pu 0 56 ?_
        refine pu 1 57 ?_
        refine pu 2 58 ?_
        refine pu 3 59 ?_
        refine pu 4 60 ?_
        refine pu 5 61 ?_
        refine pu 6 62 ?_
        refine pu 7 63 ?_
        refine pu 8 64 ?_
        refine pu 9 65 ?_
        refine on1 10 66 (fun K hK => ?_)
        refine goes_ Try.func113 (by kernel_rfl) rfl #[.slice Ao50 x3_2.length co50, .string a0, .string ((a0.extract 0 (x4_1 : Int).toNat) ++ (a0.extract ((ji44) : Int).toNat a0.size))] (by rfl) rfl rfl (by (try simp only [List.map_toArray, List.map_cons, List.map_nil]); first | done | (simp only [hji44]; rfl) | rfl | (simp only [List.length_drop, List.length_take]; rfl)) ?_
        with_reducible refine (spec_l1Step.calls k2 (fun k_ => (w.heap.size ≤ k_)) _ _ x3_2 a0 ((a0.extract 0 (x4_1 : Int).toNat) ++ (a0.extract ((ji44) : Int).toNat a0.size)) t181 _ ?side1 A48.out).mono ?_
        (case side1 => exact HO_3.out)
        rintro e w51 ⟨v182, rfl, ho0, hb⟩
        refine ⟨_, rfl, ?_⟩
        replace HO_3 := am (Kd.V_below (vq HO_3.out) hb); have HO183 := am (Kd.V_lower (Kd.V_mono (ok' := fun k_ => (w.heap.size ≤ k_)) ho0 (fun k_ hk_ => Or.elim hk_ (fun hs_ => hs_) (fun hn_ => (Nat.le_trans (below_size bel) hn_)))) (below_size bel)); replace HB := am (below_step bel hb)
        (try clear hb)
        (try clear hb2)
        (try clear hk)
        (try clear hi)
        (try clear ho0)
        refine hK.out _ _ trivial (fun hHeld => ?_)
        clear hK K
        refine norm_ (a' := ?_) ?_ ?_
        rotate_left
        ·show Act.put _ (some 66) _ = _
         simp only [Act.put, List.setIfInBounds_toArray, List.set_cons_zero, List.set_cons_succ, i64_w, i32_w]
         rfl
        refine pu 11 3 ?_
        refine done_ (done_of HT_.out (by kernel_rfl)) ?_
        try go_wp2
        go_meet
        case rel => exact ⟨_, (t181), H', ⟨by have := HK1.out; have := HK2.out; first | omega | exact Nat.le_refl _⟩, ⟨vq HO183.out⟩, ⟨bel⟩⟩
       rw [if_neg c41] at H; have c41b0 := decide_eq_false c41; clear c41
       (first | rw [c41b0] | (simp only [i64_w, i32_w]; rw [c41b0]) | skip)
       have H' := am H
       clear H; go_wp2
       go_meet
       case rel => exact ⟨_, (x3_2), H', ⟨by have := HK1.out; have := HK2.out; first | omega | exact Nat.le_refl _⟩, ⟨vq HO_3.out⟩, ⟨bel⟩⟩
      case rest =>
       clear HC40; (try clear c1); (try clear c2); (try clear p2); (try clear p3); (try clear hcv3); (try clear c4); (try clear c5); (try clear c5b0); (try clear c6); (try clear p6); (try clear c7); (try clear c8); (try clear c11); (try clear c13); (try clear c13b0); (try clear c16); (try clear c18); (try clear c19); (try clear c20); (try clear hcv31); (try clear p32); (try clear hcv37); (try clear c41); (try clear c41b0); (try clear c42); (try clear c42b0); (try clear c42b1); (try clear c43); (try clear c43b0); (try clear c43b1); (try clear c45); (try clear c45b0); (try clear c45b1); (try clear c46); (try clear c46b0); (try clear c46b1); (try clear c47); (try clear c47b0); (try clear c47b1); (try clear c47b2); obtain ⟨kq, x3_39, HA, HJ39, HO_3, HB⟩ := hcut
       cases kq with
       | zero => exact absurd HA.out (by simp [spec_l1Near.j2])
       | succ kj39 =>
        have H := HA.out; clear HA
        simp only [spec_l1Near.j2] at H
        by_cases c52 : (wrap64 (x4_1 + 1)) < (a0.size : Int)
        ·rw [if_pos c52] at H; have c52b0 := decide_eq_true c52; clear c52
         replace H := ip H; obtain ⟨c53, H⟩ := H; have c53b0 := eq_true c53
         have c53b1 : decide (0 ≤ x4_1) = true := decide_eq_true c53
         clear c53
         replace H := ip H; obtain ⟨c54, H⟩ := H; have c54b0 := eq_true c54
         have c54b1 : decide (x4_1 ≤ (a0.size : Int)) = true := decide_eq_true c54
         clear c54; obtain ⟨ji55, hji55⟩ : ∃ j_ : Int, (wrap64 (x4_1 + 1)) = j_ := ⟨_, rfl⟩
         replace H : (if 0 ≤ (ji55) then (if (ji55) ≤ (wrap64 (x4_1 + 2)) then (if (wrap64 (x4_1 + 2)) ≤ (a0.size : Int) then (if (a0.extract 0 (x4_1 : Int).toNat).size + (a0.extract ((ji55) : Int).toNat ((wrap64 (x4_1 + 2)) : Int).toNat).size ≤ 9223372036854775807 then (if x4_1 ≤ (ji55) then (if (ji55) ≤ (a0.size : Int) then (if ((a0.extract 0 (x4_1 : Int).toNat) ++ (a0.extract ((ji55) : Int).toNat ((wrap64 (x4_1 + 2)) : Int).toNat)).size + (a0.extract (x4_1 : Int).toNat ((ji55) : Int).toNat).size ≤ 9223372036854775807 then (if 0 ≤ (wrap64 (x4_1 + 2)) then (if (((a0.extract 0 (x4_1 : Int).toNat) ++ (a0.extract ((ji55) : Int).toNat ((wrap64 (x4_1 + 2)) : Int).toNat)) ++ (a0.extract (x4_1 : Int).toNat ((ji55) : Int).toNat)).size + (a0.extract ((wrap64 (x4_1 + 2)) : Int).toNat a0.size).size ≤ 9223372036854775807 then ((spec_l1Step.f kj39 x3_39 a0 ((((a0.extract 0 (x4_1 : Int).toNat) ++ (a0.extract ((ji55) : Int).toNat ((wrap64 (x4_1 + 2)) : Int).toNat)) ++ (a0.extract (x4_1 : Int).toNat ((ji55) : Int).toNat)) ++ (a0.extract ((wrap64 (x4_1 + 2)) : Int).toNat a0.size))).bind fun t184 => (spec_l1Near.l0 kj39 a0 t184 ji55)) else (none)) else (none)) else (none)) else (none)) else (none)) else (none)) else (none)) else (none)) else (none)) = some r := by first | (rw [hji55] at H; exact H) | (simp only [hji55] at H ⊢; exact H)
         (try rw [hji55] at c52b0)
         have hji55w : (IntKind.i64.wrap (x4_1 + 1)) = ji55 := (i64_w _).trans hji55
         (try clear hji17w)
         (try clear hji44w)
         replace H := ip H; obtain ⟨c56, H⟩ := H; have c56b0 := eq_true c56
         have c56b1 : decide (0 ≤ (ji55)) = true := decide_eq_true c56
         clear c56
         replace H := ip H; obtain ⟨c57, H⟩ := H; have c57b0 := eq_true c57
         have c57b1 : decide ((ji55) ≤ (wrap64 (x4_1 + 2))) = true := decide_eq_true c57
         replace H := ip H; obtain ⟨c58, H⟩ := H; have c58b0 := eq_true c58
         have c58b1 : decide ((wrap64 (x4_1 + 2)) ≤ (a0.size : Int)) = true := decide_eq_true c58
         replace H := ip H; obtain ⟨c59, H⟩ := H; have c59b0 := eq_true c59; have c59b5 := c59
         try simp at c59b5
         try have c59b4 := eq_false (Nat.not_lt.2 c59b5)
         try have c59b3 : (9223372036854775807 < (x4_1 : Int).toNat + (((wrap64 (x4_1 + 2)) : Int).toNat - ((ji55) : Int).toNat)) = False := by
               have h_ := c59
               simp only [ByteArray.size_append, ByteArray.size_extract] at h_
               have g0_ : (x4_1) ≤ (a0.size : Int) := of_decide_eq_true ad
               have g1_ : ((wrap64 (x4_1 + 2))) ≤ (a0.size : Int) := of_decide_eq_true ad
               exact eq_false (by omega)
         have c59b1 : decide ((a0.extract 0 (x4_1 : Int).toNat).size + (a0.extract ((ji55) : Int).toNat ((wrap64 (x4_1 + 2)) : Int).toNat).size ≤ 9223372036854775807) = true := decide_eq_true c59
         try have c59b2 : (9223372036854775807 < (a0.extract 0 (x4_1 : Int).toNat).size + (a0.extract ((ji55) : Int).toNat ((wrap64 (x4_1 + 2)) : Int).toNat).size) = False := eq_false (Nat.not_lt.2 c59)
         have c60b0 := eq_true (of_decide_eq_true ad : 0 ≤ x4_1)
         replace H := ip H; obtain ⟨c61, H⟩ := H; have c61b0 := eq_true c61
         have c61b1 : decide (x4_1 ≤ (ji55)) = true := decide_eq_true c61
         clear c61
         replace H := ip H; obtain ⟨c62, H⟩ := H; have c62b0 := eq_true c62
         have c62b1 : decide ((ji55) ≤ (a0.size : Int)) = true := decide_eq_true c62
         clear c62
         replace H := ip H; obtain ⟨c63, H⟩ := H; have c63b0 := eq_true c63; have c63b5 := c63
         try simp at c63b5
         try have c63b4 := eq_false (Nat.not_lt.2 c63b5)
         try have c63b3 : (9223372036854775807 < (x4_1 : Int).toNat + (((wrap64 (x4_1 + 2)) : Int).toNat - ((ji55) : Int).toNat) + (((ji55) : Int).toNat - (x4_1 : Int).toNat)) = False := by
               have h_ := c63
               simp only [ByteArray.size_append, ByteArray.size_extract] at h_
               have g0_ : (x4_1) ≤ (a0.size : Int) := of_decide_eq_true ad
               have g1_ : ((wrap64 (x4_1 + 2))) ≤ (a0.size : Int) := of_decide_eq_true ad
               have g2_ : ((ji55)) ≤ (a0.size : Int) := of_decide_eq_true ad
               exact eq_false (by omega)
         have c63b1 : decide (((a0.extract 0 (x4_1 : Int).toNat) ++ (a0.extract ((ji55) : Int).toNat ((wrap64 (x4_1 + 2)) : Int).toNat)).size + (a0.extract (x4_1 : Int).toNat ((ji55) : Int).toNat).size ≤ 9223372036854775807) = true := decide_eq_true c63
         try have c63b2 : (9223372036854775807 < ((a0.extract 0 (x4_1 : Int).toNat) ++ (a0.extract ((ji55) : Int).toNat ((wrap64 (x4_1 + 2)) : Int).toNat)).size + (a0.extract (x4_1 : Int).toNat ((ji55) : Int).toNat).size) = False := eq_false (Nat.not_lt.2 c63)
         obtain ⟨ji64, hji64⟩ : ∃ j_ : Int, (wrap64 (x4_1 + 2)) = j_ := ⟨_, rfl⟩
         replace H : (if 0 ≤ (ji64) then (if (((a0.extract 0 (x4_1 : Int).toNat) ++ (a0.extract ((ji55) : Int).toNat ((ji64) : Int).toNat)) ++ (a0.extract (x4_1 : Int).toNat ((ji55) : Int).toNat)).size + (a0.extract ((ji64) : Int).toNat a0.size).size ≤ 9223372036854775807 then ((spec_l1Step.f kj39 x3_39 a0 ((((a0.extract 0 (x4_1 : Int).toNat) ++ (a0.extract ((ji55) : Int).toNat ((ji64) : Int).toNat)) ++ (a0.extract (x4_1 : Int).toNat ((ji55) : Int).toNat)) ++ (a0.extract ((ji64) : Int).toNat a0.size))).bind fun t184 => (spec_l1Near.l0 kj39 a0 t184 ji55)) else (none)) else (none)) = some r := by first | (rw [hji64] at H; exact H) | (simp only [hji64] at H ⊢; exact H)
         (try rw [hji64] at c57b0)
         (try rw [hji64] at c57b1)
         (try rw [hji64] at c57)
         (try rw [hji64] at c58b0)
         (try rw [hji64] at c58b1)
         (try rw [hji64] at c58)
         (try rw [hji64] at c59b0)
         (try rw [hji64] at c59b3)
         (try rw [hji64] at c59b4)
         (try rw [hji64] at c59b5)
         (try rw [hji64] at c59b1)
         (try rw [hji64] at c59)
         (try rw [hji64] at c63b0)
         (try rw [hji64] at c63b3)
         (try rw [hji64] at c63b4)
         (try rw [hji64] at c63b5)
         (try rw [hji64] at c63b1)
         (try rw [hji64] at c63)
         have hji64w : (IntKind.i64.wrap (x4_1 + 2)) = ji64 := (i64_w _).trans hji64
         replace H := ip H; obtain ⟨c65, H⟩ := H; have c65b0 := eq_true c65
         have c65b1 : decide (0 ≤ (ji64)) = true := decide_eq_true c65
         clear c65; have c66b0 := eq_true (of_decide_eq_true ad : (ji64) ≤ (a0.size : Int))
         replace H := ip H; obtain ⟨c67, H⟩ := H; have c67b0 := eq_true c67; have c67b5 := c67
         try simp at c67b5
         try have c67b4 := eq_false (Nat.not_lt.2 c67b5)
         try have c67b3 : (9223372036854775807 < (x4_1 : Int).toNat + (((ji64) : Int).toNat - ((ji55) : Int).toNat) + (((ji55) : Int).toNat - (x4_1 : Int).toNat) + (a0.size - ((ji64) : Int).toNat)) = False := by
               have h_ := c67
               simp only [ByteArray.size_append, ByteArray.size_extract] at h_
               have g0_ : (x4_1) ≤ (a0.size : Int) := of_decide_eq_true ad
               have g1_ : ((ji64)) ≤ (a0.size : Int) := of_decide_eq_true ad
               have g2_ : ((ji55)) ≤ (a0.size : Int) := of_decide_eq_true ad
               exact eq_false (by omega)
         have c67b1 : decide ((((a0.extract 0 (x4_1 : Int).toNat) ++ (a0.extract ((ji55) : Int).toNat ((ji64) : Int).toNat)) ++ (a0.extract (x4_1 : Int).toNat ((ji55) : Int).toNat)).size + (a0.extract ((ji64) : Int).toNat a0.size).size ≤ 9223372036854775807) = true := decide_eq_true c67
         try have c67b2 : (9223372036854775807 < (((a0.extract 0 (x4_1 : Int).toNat) ++ (a0.extract ((ji55) : Int).toNat ((ji64) : Int).toNat)) ++ (a0.extract (x4_1 : Int).toNat ((ji55) : Int).toNat)).size + (a0.extract ((ji64) : Int).toNat a0.size).size) = False := eq_false (Nat.not_lt.2 c67)
         replace H := bs H; obtain ⟨t184, A680, H⟩ := H; replace H : (spec_l1Near.l0 kj39 a0 t184 ji55) = some r := H; have A68 := Aside0.mk A680; clear A680
         have H' := am H
         clear H
         try go_wp2
         replace HO_3 := am (Kd.V_drew HO_3.out); replace HB := am (below_drew1 HB.out); obtain ⟨Ao70, co70, eo70⟩ := Kd.V_slice HO_3.out
         (first | subst eo70 | (injection eo70 with f1_ f2_ f3_; have f4_ := f1_.symm; have f5_ := f3_.symm; clear f1_ f2_ f3_; subst f4_; subst f5_))
         refine st (n := 25) (S := fun w' => True) (ds := []) trivial (fun hHeld => ?_); refine with_tabW spec_l1Near.tab14 spec_l1Near.bits14 (fun HT_ HW_ => ?_)
         generalize wc.drew = w69 at HO_3 HB hHeld ⊢
         refine pu 0 72 ?_
         refine pu 1 73 ?_
         refine pu 2 74 ?_
         refine pu 3 75 ?_
         refine pu 4 76 ?_
         refine pu 5 77 ?_
         refine pu 6 78 ?_
         refine pu 7 79 ?_
         refine pu 8 80 ?_
         refine pu 9 81 ?_
         refine pu 10 82 ?_
         refine pu 11 83 ?_
         refine pu 12 84 ?_
         refine pu 13 85 ?_
         refine pu 14 86 ?_
         refine pu 15 87 ?_
         refine pu 16 88 ?_
         refine pu 17 89 ?_
         refine pu 18 90 ?_
         refine pu 19 91 ?_
         refine pu 20 92 ?_
         refine pu 21 93 ?_
         refine pu 22 94 ?_
         refine on1 23 95 (fun K hK => ?_)
         refine goes_ Try.func113 (by kernel_rfl) rfl #[.slice Ao70 x3_39.length co70, .string a0, .string ((((a0.extract 0 (x4_1 : Int).toNat) ++ (a0.extract ((ji55) : Int).toNat ((ji64) : Int).toNat)) ++ (a0.extract (x4_1 : Int).toNat ((ji55) : Int).toNat)) ++ (a0.extract ((ji64) : Int).toNat a0.size))] (by rfl) rfl rfl (by (try simp only [List.map_toArray, List.map_cons, List.map_nil]); first | done | (simp only [hji55, hji64]; rfl) | rfl | (simp only [List.length_drop, List.length_take]; rfl)) ?_
         with_reducible refine (spec_l1Step.calls kj39 (fun k_ => (w.heap.size ≤ k_)) _ _ x3_39 a0 ((((a0.extract 0 (x4_1 : Int).toNat) ++ (a0.extract ((ji55) : Int).toNat ((ji64) : Int).toNat)) ++ (a0.extract (x4_1 : Int).toNat ((ji55) : Int).toNat)) ++ (a0.extract ((ji64) : Int).toNat a0.size)) t184 _ ?side1 A68.out).mono ?_
         (case side1 => exact HO_3.out)
         rintro e w71 ⟨v185, rfl, ho0, hb⟩
         refine ⟨_, rfl, ?_⟩
         replace HO_3 := am (Kd.V_below (vq HO_3.out) hb); have HO186 := am (Kd.V_lower (Kd.V_mono (ok' := fun k_ => (w.heap.size ≤ k_)) ho0 (fun k_ hk_ => Or.elim hk_ (fun hs_ => hs_) (fun hn_ => (Nat.le_trans (below_size bel) hn_)))) (below_size bel)); replace HB := am (below_step bel hb)
         (try clear hb)
         (try clear hb2)
         (try clear hk)
         (try clear hi)
         (try clear ho0)
         refine hK.out _ _ trivial (fun hHeld => ?_)
         clear hK K
         refine norm_ (a' := ?_) ?_ ?_
         rotate_left
         ·show Act.put _ (some 95) _ = _
          simp only [Act.put, List.setIfInBounds_toArray, List.set_cons_zero, List.set_cons_succ, i64_w, i32_w]
          rfl
         refine pu 24 3 ?_
         refine done_ (done_of HT_.out (by kernel_rfl)) ?_
         try go_wp2
         go_roundg kj39
         case measure => have := HK1.out; have := HK2.out; have := HJ39.out; omega
         case rel => exact ⟨(t184), (ji55), (by first | rfl | (simp; done) | (simp only [← hji55] <;> (first | rfl | simp)) | (simp [*]; done)), H', ⟨by have := HK1.out; have := HK2.out; have := HJ39.out; omega⟩, ⟨vq HO186.out⟩, ⟨bel⟩⟩
        rw [if_neg c52] at H; have c52b0 := decide_eq_false c52; clear c52
        have H' := am H
        clear H; go_wp2
        go_roundg kj39
        case measure => have := HK1.out; have := HK2.out; have := HJ39.out; omega
        case rel => exact ⟨(x3_39), (wrap64 (x4_1 + 1)), sq, H', ⟨by have := HK1.out; have := HK2.out; have := HJ39.out; omega⟩, ⟨vq HO_3.out⟩, ⟨bel⟩⟩
   rw [if_neg c4] at H; have c4b0 := decide_eq_false c4; clear c4; obtain rfl := Option.some.inj H; go_wp2; go_ret
   exact ⟨_, eq_, by (with_reducible repeat (first | apply Kd.V_alloc | apply Kd.V_drewN | apply Kd.V_drew)); exact HO_3.out, bel⟩
-- shrunk

/-! ### spec_l3Go: function 71 -/
mutual
def spec_l3Go.l0 : Nat → List (S94) → ByteArray → Int → Int → Option (Int)
 | 0, _, _, _, _ => none
 | k + 1, x0, x1, x5, x6 => if x6 < (x1.size : Int) then (spec_l3Go.l1 k x0 x1 x5 x6 (-1) 0) else (some x5)
def spec_l3Go.l1 : Nat → List (S94) → ByteArray → Int → Int → Int → Int → Option (Int)
 | 0, _, _, _, _, _, _ => none
 | k + 1, x0, x1, x5, x6, x7, x8 => if 0 ≤ x5 then (if x5 < (x0.length : Int) then (if x8 < (((rd_T94 x0 x5).f1).length : Int) then (if 0 ≤ x8 then (if 0 ≤ x6 then (if x6 < (x1.size : Int) then (if ((rd_T100 ((rd_T94 x0 x5).f1) x8).f0) = (wrap64 (bt x1 x6)) then (spec_l3Go.l1 k x0 x1 x5 x6 ((rd_T100 ((rd_T94 x0 x5).f1) x8).f1) (wrap64 (x8 + 1))) else (spec_l3Go.l1 k x0 x1 x5 x6 x7 (wrap64 (x8 + 1)))) else (none)) else (none)) else (none)) else (if x7 < 0 then (some (-1)) else (spec_l3Go.l0 k x0 x1 x7 (wrap64 (x6 + 1))))) else (none)) else (none)
end
def spec_l3Go.f (k : Nat) (l0 : List (S94)) (a1 : ByteArray) : Option (Int) := spec_l3Go.l0 k l0 a1 0 0
theorem spec_l3Go.calls (k : Nat) (A0 : Option Addr) (c0 : Nat) (l0 : List (S94)) (a1 : ByteArray) (r : Int) (w : World) (hr0 : Kd.C k94 w A0 l0.length l0) (hc0 : l0.length ≤ c0) (h : spec_l3Go.f k l0 a1 = some r) :
  Calls Try.prog 71 #[.slice A0 l0.length c0, .string a1] w fun e w' => e = .returned (.int .i64 r) ∧ Drawn0 w w' := by
 have HR0 := am hr0; have HC0 := am hc0; clear hr0 hc0
 have H : (spec_l3Go.l0 k l0 a1 0 0) = some r := h
 clear h
 have H' := am H
 clear H; go_enter Try.func71, Try.ntmps71; go_wp2
 repeat (go_quiet (fail); try go_wp2)
 go_loopg [5, 6] k (fun kq v5 v6 w' => ∃ (x5_1 : Int) (x6_1 : Int), v5 = .int .i64 x5_1 ∧ v6 = .int .i64 x6_1 ∧ Aside0 (spec_l3Go.l0 kq l0 a1 x5_1 x6_1 = some r) ∧ Aside0 (kq ≤ k) ∧ Drawn0 w w')
 case atStart => exact ⟨(0), (0), sq, sq, H', ⟨Nat.le_refl _⟩, dr⟩
 case round =>
  clear H'; (try clear p2); obtain ⟨x5_1, x6_1, rfl, rfl, HA, HK1, ⟨m1, rfl⟩⟩ := hrel
  cases gk with
  | zero => exact absurd HA.out (by simp [spec_l3Go.l0])
  | succ k1 =>
   have H := HA.out; clear HA
   simp only [spec_l3Go.l0] at H
   by_cases c3 : x6_1 < (a1.size : Int)
   ·rw [if_pos c3] at H; have c3b0 := decide_eq_true c3; clear c3
    have H' := am H
    clear H; go_wp2
    repeat (go_quiet (fail); try go_wp2)
    go_loopg [7, 8] k1 (fun kq v7 v8 w' => ∃ (x7_2 : Int) (x8_2 : Int), v7 = .int .i64 x7_2 ∧ v8 = .int .i64 x8_2 ∧ Aside0 (spec_l3Go.l1 kq l0 a1 x5_1 x6_1 x7_2 x8_2 = some r) ∧ Aside0 (kq ≤ k1) ∧ Drawn0 w w')
    case atStart => exact ⟨((-1)), (0), sq, sq, H', ⟨Nat.le_refl _⟩, dr⟩
    case round =>
     clear H'; (try clear p2); (try clear c3); (try clear c3b0); (try clear p2); obtain ⟨x7_2, x8_2, rfl, rfl, HA, HK2, ⟨m2, rfl⟩⟩ := hrel
     cases gk with
     | zero => exact absurd HA.out (by simp [spec_l3Go.l1])
     | succ k2 =>
      have H := HA.out; clear HA
      simp only [spec_l3Go.l1] at H
      replace H := it H; obtain ⟨c4b0, H⟩ := H
      replace H := it H; obtain ⟨c5b0, H⟩ := H
      by_cases c6 : x8_2 < (((rd_T94 l0 x5_1).f1).length : Int)
      ·rw [if_pos c6] at H; have c6b0 := decide_eq_true c6; clear c6
       replace H := it H; obtain ⟨c7b0, H⟩ := H
       replace H := it H; obtain ⟨c8b0, H⟩ := H
       replace H := it H; obtain ⟨c9b0, H⟩ := H
       by_cases c11 : ((rd_T100 ((rd_T94 l0 x5_1).f1) x8_2).f0) = (wrap64 (bt a1 x6_1))
       ·rw [if_pos c11] at H
        have c11b0 : (((rd_T100 ((rd_T94 l0 x5_1).f1) x8_2).f0) == (wrap64 (bt a1 x6_1))) = true := beq_iff_eq.mpr c11
        have c11b1 : (((rd_T100 ((rd_T94 l0 x5_1).f1) x8_2).f0) != (wrap64 (bt a1 x6_1))) = false := bne_eq_false_iff_eq.mpr c11
        clear c11
        have H' := am H
        clear H
        have p187 : 0 ≤ (x5_1 : Int) := of_decide_eq_true ad
        have q187 : x5_1 < (l0.length : Int) := of_decide_eq_true ad
        obtain ⟨ad187, A187_1, c187_1, e187, hx187_0, hx187_1, hl187_1, hi187_1⟩ := at_T94 HR0.out x5_1 p187 q187
        cases e187
        have HR187_1 := am hi187_1; have HC187_1 := am hl187_1; clear hi187_1 hl187_1; replace p187 := eq_true p187; replace q187 := eq_true q187
        have p188 : 0 ≤ (x5_1 : Int) := of_decide_eq_true ad
        have q188 : x5_1 < (l0.length : Int) := of_decide_eq_true ad
        obtain ⟨ad188, A188_1, c188_1, e188, hx188_0, hx188_1, hl188_1, hi188_1⟩ := at_T94 HR0.out x5_1 p188 q188
        obtain rfl : ad187 = ad188 := (by injection e188)
        have HR188_1 := am hi188_1; have HC188_1 := am hl188_1; clear hi188_1 hl188_1; replace p188 := eq_true p188; replace q188 := eq_true q188; have ea_ := Option.some.inj (hx187_1.symm.trans hx188_1)
        injection ea_ with ea_ en_ ec_
        subst ea_; subst ec_; clear en_
        have p189 : 0 ≤ (x8_2 : Int) := of_decide_eq_true ad
        have q189 : x8_2 < (((rd_T94 l0 x5_1).f1).length : Int) := of_decide_eq_true ad
        obtain ⟨ad189, e189, hx189_0, hx189_1⟩ := at_T100 HR188_1.out x8_2 p189 q189
        cases e189
        replace p189 := eq_true p189; replace q189 := eq_true q189
        have p10 : 0 ≤ (x6_1 : Int) := of_decide_eq_true ad
        have q10 : x6_1 < (a1.size : Int) := of_decide_eq_true ad
        have hx10 := bt_at a1 x6_1; replace p10 := eq_true p10; replace q10 := eq_true q10
        have p190 : 0 ≤ (x5_1 : Int) := of_decide_eq_true ad
        have q190 : x5_1 < (l0.length : Int) := of_decide_eq_true ad
        obtain ⟨ad190, A190_1, c190_1, e190, hx190_0, hx190_1, hl190_1, hi190_1⟩ := at_T94 HR0.out x5_1 p190 q190
        obtain rfl : ad187 = ad190 := (by injection e190)
        have HR190_1 := am hi190_1; have HC190_1 := am hl190_1; clear hi190_1 hl190_1; replace p190 := eq_true p190; replace q190 := eq_true q190; have ea_ := Option.some.inj (hx187_1.symm.trans hx190_1)
        injection ea_ with ea_ en_ ec_
        subst ea_; subst ec_; clear en_
        have p191 : 0 ≤ (x8_2 : Int) := of_decide_eq_true ad
        have q191 : x8_2 < (((rd_T94 l0 x5_1).f1).length : Int) := of_decide_eq_true ad
        obtain ⟨ad191, e191, hx191_0, hx191_1⟩ := at_T100 HR190_1.out x8_2 p191 q191
        cases e191
        replace p191 := eq_true p191; replace q191 := eq_true q191; go_wp2
        repeat (go_quiet (fail); try go_wp2)
        go_roundg k2
        case measure => have := HK1.out; have := HK2.out; omega
        case rel => exact ⟨((rd_T100 ((rd_T94 l0 x5_1).f1) x8_2).f1), (wrap64 (x8_2 + 1)), sq, sq, H', ⟨b15_⟩, dr⟩
       rw [if_neg c11] at H
       have c11b0 : (((rd_T100 ((rd_T94 l0 x5_1).f1) x8_2).f0) == (wrap64 (bt a1 x6_1))) = false := beq_eq_false_iff_ne.mpr c11
       have c11b1 : (((rd_T100 ((rd_T94 l0 x5_1).f1) x8_2).f0) != (wrap64 (bt a1 x6_1))) = true := bne_iff_ne.mpr c11
       have H' := am H
       clear H
       have p187 : 0 ≤ (x5_1 : Int) := of_decide_eq_true ad
       have q187 : x5_1 < (l0.length : Int) := of_decide_eq_true ad
       obtain ⟨ad187, A187_1, c187_1, e187, hx187_0, hx187_1, hl187_1, hi187_1⟩ := at_T94 HR0.out x5_1 p187 q187
       cases e187
       have HR187_1 := am hi187_1; have HC187_1 := am hl187_1; clear hi187_1 hl187_1; replace p187 := eq_true p187; replace q187 := eq_true q187
       have p188 : 0 ≤ (x5_1 : Int) := of_decide_eq_true ad
       have q188 : x5_1 < (l0.length : Int) := of_decide_eq_true ad
       obtain ⟨ad188, A188_1, c188_1, e188, hx188_0, hx188_1, hl188_1, hi188_1⟩ := at_T94 HR0.out x5_1 p188 q188
       obtain rfl : ad187 = ad188 := (by injection e188)
       have HR188_1 := am hi188_1; have HC188_1 := am hl188_1; clear hi188_1 hl188_1; replace p188 := eq_true p188; replace q188 := eq_true q188; have ea_ := Option.some.inj (hx187_1.symm.trans hx188_1)
       injection ea_ with ea_ en_ ec_
       subst ea_; subst ec_; clear en_
       have p189 : 0 ≤ (x8_2 : Int) := of_decide_eq_true ad
       have q189 : x8_2 < (((rd_T94 l0 x5_1).f1).length : Int) := of_decide_eq_true ad
       obtain ⟨ad189, e189, hx189_0, hx189_1⟩ := at_T100 HR188_1.out x8_2 p189 q189
       cases e189
       replace p189 := eq_true p189; replace q189 := eq_true q189
       have p10 : 0 ≤ (x6_1 : Int) := of_decide_eq_true ad
       have q10 : x6_1 < (a1.size : Int) := of_decide_eq_true ad
       have hx10 := bt_at a1 x6_1; replace p10 := eq_true p10; replace q10 := eq_true q10; go_wp2
       repeat (go_quiet (fail); try go_wp2)
       go_roundg k2
       case measure => have := HK1.out; have := HK2.out; omega
       case rel => exact ⟨(x7_2), (wrap64 (x8_2 + 1)), sq, sq, H', ⟨b15_⟩, dr⟩
      rw [if_neg c6] at H; have c6b0 := decide_eq_false c6; clear c6
      by_cases c12 : x7_2 < 0
      ·rw [if_pos c12] at H; have c12b0 := decide_eq_true c12; clear c12; obtain rfl := Option.some.inj H
       have p187 : 0 ≤ (x5_1 : Int) := of_decide_eq_true ad
       have q187 : x5_1 < (l0.length : Int) := of_decide_eq_true ad
       obtain ⟨ad187, A187_1, c187_1, e187, hx187_0, hx187_1, hl187_1, hi187_1⟩ := at_T94 HR0.out x5_1 p187 q187
       cases e187
       have HR187_1 := am hi187_1; have HC187_1 := am hl187_1; clear hi187_1 hl187_1; replace p187 := eq_true p187; replace q187 := eq_true q187; go_wp2
       repeat (go_quiet (fail); try go_wp2)
       go_ret
       exact ⟨sq, dr⟩
      rw [if_neg c12] at H; have c12b0 := decide_eq_false c12; clear c12
      have H' := am H
      clear H
      have p187 : 0 ≤ (x5_1 : Int) := of_decide_eq_true ad
      have q187 : x5_1 < (l0.length : Int) := of_decide_eq_true ad
      obtain ⟨ad187, A187_1, c187_1, e187, hx187_0, hx187_1, hl187_1, hi187_1⟩ := at_T94 HR0.out x5_1 p187 q187
      cases e187
      have HR187_1 := am hi187_1; have HC187_1 := am hl187_1; clear hi187_1 hl187_1; replace p187 := eq_true p187; replace q187 := eq_true q187; go_wp2
      repeat (go_quiet (fail); try go_wp2)
      go_roundg k2
      case measure => have := HK1.out; have := HK2.out; omega
      case rel => exact ⟨(x7_2), (wrap64 (x6_1 + 1)), sq, sq, H', ⟨b15_⟩, dr⟩
   rw [if_neg c3] at H; have c3b0 := decide_eq_false c3; clear c3; obtain rfl := Option.some.inj H; go_wp2
   repeat (go_quiet (fail); try go_wp2)
   go_ret
   exact ⟨sq, dr⟩

/-! ### spec_MachineGuesses: function 26 -/
mutual
def spec_MachineGuesses.j0 : Nat → List (S94) → ByteArray → List ByteArray → Bool → Option (List ByteArray)
 | 0, _, _, _, _ => none
 | k + 1, x0, x1, x5, x17 => if x17 = true then (some x5) else ((spec_l1Near.f k x1).bind fun t197 => (spec_MachineGuesses.l0 k x0 x5 t197 0))
def spec_MachineGuesses.l0 : Nat → List (S94) → List ByteArray → List ByteArray → Int → Option (List ByteArray)
 | 0, _, _, _, _ => none
 | k + 1, x0, x5, x6, x7 => if x7 < (x6.length : Int) then (if 0 ≤ x7 then ((spec_l3Go.f k x0 (rdOf ByteArray.empty x6 x7)).bind fun t201 => (if t201 ≥ 0 then (if 0 ≤ t201 then (if t201 < (x0.length : Int) then (if (rd_T94 x0 t201).f0 = true then (if x5.length < 8796093022208 then (spec_MachineGuesses.l0 k x0 (x5 ++ [rdOf ByteArray.empty x6 x7]) x6 (wrap64 (x7 + 1))) else (none)) else (spec_MachineGuesses.l0 k x0 x5 x6 (wrap64 (x7 + 1)))) else (none)) else (none)) else (spec_MachineGuesses.l0 k x0 x5 x6 (wrap64 (x7 + 1))))) else (none)) else (some x5)
end
def spec_MachineGuesses.f (k : Nat) (l0 : List (S94)) (a1 : ByteArray) : Option (List ByteArray) := (some (([] : List ByteArray) : List ByteArray)).bind fun y192 => ((spec_MachineOk.f k l0).bind fun t195 => (if t195 = true then ((spec_l1Word.f k a1).bind fun t196 => (spec_MachineGuesses.j0 k l0 a1 y192 (!t196))) else (spec_MachineGuesses.j0 k l0 a1 y192 true)))
theorem spec_MachineGuesses.calls (k : Nat) (A0 : Option Addr) (c0 : Nat) (l0 : List (S94)) (a1 : ByteArray) (r : List ByteArray) (w : World) (hr0 : Kd.C k94 w A0 l0.length l0) (hc0 : l0.length ≤ c0) (h : spec_MachineGuesses.f k l0 a1 = some r) :
  Calls Try.prog 26 #[.slice A0 l0.length c0, .string a1] w fun e w' => ∃ v0_ : Value, e = .returned (v0_) ∧ Kd.R Kd.string 9 w' w.heap.size (fun _ => True) v0_ r ∧ Below w.heap.size w w' := by
 have HR0 := am hr0; have HC0 := am hc0; clear hr0 hc0; have HB := am (Below.refl w.heap.size w)
 have H : ((some (([] : List ByteArray) : List ByteArray)).bind fun y192 => ((spec_MachineOk.f k l0).bind fun t195 => (if t195 = true then ((spec_l1Word.f k a1).bind fun t196 => (spec_MachineGuesses.j0 k l0 a1 y192 (!t196))) else (spec_MachineGuesses.j0 k l0 a1 y192 true)))) = some r := h
 clear h; obtain ⟨y192, hy192⟩ : ∃ y_ : List ByteArray, y_ = (([] : List ByteArray)) := ⟨_, rfl⟩
 replace H : ((spec_MachineOk.f k l0).bind fun t195 => (if t195 = true then ((spec_l1Word.f k a1).bind fun t196 => (spec_MachineGuesses.j0 k l0 a1 y192 (!t196))) else (spec_MachineGuesses.j0 k l0 a1 y192 true))) = some r := by first | (rw [hy192]; with_reducible exact H) | (have H2_ := bm H; rw [hy192]; with_reducible exact H2_) | (with_reducible exact bm H) | with_reducible exact H | (rw [hy192]; exact H) | exact H
 have Ny192 := am hy192; clear hy192; have HC3 := am H; clear H; go_enter Try.func26, Try.ntmps26
 go_upto_region 2 with (first | ((with_reducible refine gate_dst (N := 9) rfl ?_); refine Kd.R_lit Kd.string _ 9 ?hg (N := 9) ?hd (xs := ([] : List ByteArray)) (inner := []) (ok := fun _ => True) (okp := fun _ => True) ?hr ?hp (fun _ hk => hk) trivial (Below.refl _ _) (Nat.le_refl _) (by simp) ?_; (case hd => rfl); (case hg => rfl); (case hr => first | (go_simp; done) | (go_simp; rfl)); (case hp => exact (Reps.none _ _)); intro v193 w4 ho5 hb hg_ hnew_; clear hg_ hnew_; (first | rw [← Ny192.out] at ho5 | (simp only [Int.reduceToNat] at ho5; rw [← Ny192.out] at ho5) | (simp only [Int.toNat_natCast] at ho5; rw [← Ny192.out] at ho5)); have HO194 := am (Kd.R_lower ho5 (below_size bel)); replace HB := am (below_step bel hb); clear hb ho5))
 (try simp only [Act.put, List.setIfInBounds_toArray, List.set_cons_zero, List.set_cons_succ])
 go_cut [17] (fun v17 wc => ∃ (kq : Nat) (x17_2 : Bool), v17 = .bool x17_2 ∧ Aside0 (spec_MachineGuesses.j0 kq l0 a1 y192 x17_2 = some r) ∧ Aside0 (kq ≤ k) ∧ Aside0 (Kd.R Kd.string 9 wc w.heap.size (fun _ => True) v193 y192) ∧ Aside0 (Below w.heap.size w wc))
 case first =>
  have H := HC3.out; clear HC3; replace H := bs H; obtain ⟨t195, A60, H⟩ := H; replace H : (if t195 = true then ((spec_l1Word.f k a1).bind fun t196 => (spec_MachineGuesses.j0 k l0 a1 y192 (!t196))) else (spec_MachineGuesses.j0 k l0 a1 y192 true)) = some r := H; have A6 := Aside0.mk A60; clear A60
  by_cases c7 : t195 = true
  ·subst c7
   have H1 : ((spec_l1Word.f k a1).bind fun t196 => (spec_MachineGuesses.j0 k l0 a1 y192 (!t196))) = some r := b11_
   replace H := H1; clear H1
   replace H := bs H; obtain ⟨t196, A80, H⟩ := H; replace H : (spec_MachineGuesses.j0 k l0 a1 y192 (!t196)) = some r := H; have A8 := Aside0.mk A80; clear A80
   have H' := am H
   clear H
   go_wp2_with (first | ((with_reducible refine gate_callee (f := 34) rfl ?_); refine goesL_ (some 11) rfl rfl Try.func34 (by kernel_rfl) rfl #[.slice A0 l0.length c0] rfl mq ?_; (with_reducible refine (spec_MachineOk.calls k _ _ l0 true _ ?side1 ?side2 A6.out).mono ?_); (case side1 => exact cq (Kd.C_below HR0.out HB.out)); (case side2 => exact HC0.out); rintro e w9 ⟨rfl, hb⟩; refine ⟨_, rfl, ?_⟩; replace HO194 := am (Kd.R_below (rq HO194.out) hb); replace HB := am (below_step bel hb); (try clear hb); (try clear hb2); (try clear hk); (try clear hi)) | (go_at_call 57; (with_reducible refine (spec_l1Word.calls k a1 t196 _ A8.out).mono ?_); rintro e w' ⟨rfl, ⟨nd, rfl⟩⟩))
   go_meet
   case rel => exact ⟨_, (!t196), sq, H', ⟨b36_⟩, ⟨rq HO194.out⟩, ⟨bel⟩⟩
  replace c7 := Bool.eq_false_iff.mpr c7; subst c7
  have H1 : (spec_MachineGuesses.j0 k l0 a1 y192 true) = some r := b5_
  replace H := H1; clear H1
  have H' := am H
  clear H
  go_wp2_with (first | ((with_reducible refine gate_callee (f := 34) rfl ?_); refine goesL_ (some 11) rfl rfl Try.func34 (by kernel_rfl) rfl #[.slice A0 l0.length c0] rfl mq ?_; (with_reducible refine (spec_MachineOk.calls k _ _ l0 false _ ?side1 ?side2 A6.out).mono ?_); (case side1 => exact cq (Kd.C_below HR0.out HB.out)); (case side2 => exact HC0.out); rintro e w10 ⟨rfl, hb⟩; refine ⟨_, rfl, ?_⟩; replace HO194 := am (Kd.R_below (rq HO194.out) hb); replace HB := am (below_step bel hb); (try clear hb); (try clear hb2); (try clear hk); (try clear hi)))
  go_meet
  case rel => exact ⟨_, (true), sq, H', ⟨b36_⟩, ⟨rq HO194.out⟩, ⟨bel⟩⟩
 case rest =>
  clear HC3; (try clear c2); (try clear p2); (try clear c3); (try clear c7); obtain ⟨kq, x17_2, rfl, HA, HJ2, HO_5, HB⟩ := hcut
  cases kq with
  | zero => exact absurd HA.out (by simp [spec_MachineGuesses.j0])
  | succ kj2 =>
   have H := HA.out; clear HA
   simp only [spec_MachineGuesses.j0] at H
   by_cases c11 : x17_2 = true
   ·subst c11
    have H1 : (some y192) = some r := b11_
    replace H := H1; clear H1
    obtain rfl := Option.some.inj H; go_wp2; go_ret
    exact ⟨_, eq_, by (with_reducible repeat (first | apply Kd.R_alloc | apply Kd.R_drewN | apply Kd.R_drew)); exact HO_5.out, bel⟩
   replace c11 := Bool.eq_false_iff.mpr c11; subst c11
   have H1 : ((spec_l1Near.f kj2 a1).bind fun t197 => (spec_MachineGuesses.l0 kj2 l0 y192 t197 0)) = some r := b5_
   replace H := H1; clear H1
   replace H := bs H; obtain ⟨t197, A120, H⟩ := H; replace H : (spec_MachineGuesses.l0 kj2 l0 y192 t197 0) = some r := H; have A12 := Aside0.mk A120; clear A120
   have H' := am H
   clear H
   go_wp2_with (first | ((with_reducible refine gate_callee (f := 70) rfl ?_); refine goesL_ (some 20) rfl rfl Try.func70 (by kernel_rfl) rfl #[.string a1] rfl mq ?_; (with_reducible refine (spec_l1Near.calls kj2 a1 t197 _ A12.out).mono ?_); rintro e w13 ⟨v198, rfl, ho0, hb⟩; refine ⟨_, rfl, ?_⟩; have HO199 := am (Kd.V_lower (Kd.V_mono (ok' := fun k_ => some k_ ≠ (v193 : Value).ownBlock) ho0 (fun k_ hk_ => (Kd.fresh' (Kd.R_lt (rq HO_5.out)) k_ hk_))) (below_size bel)); replace HO_5 := am (Kd.R_below (rq HO_5.out) hb); replace HB := am (below_step bel hb); (try clear hb); (try clear hb2); (try clear hk); (try clear hi); (try clear ho0)))
   go_loopg [5, 7] kj2 (fun kq v5 v7 w' => ∃ (x5_2 : List ByteArray) (x7_2 : Int), v7 = .int .i64 x7_2 ∧ Aside0 (spec_MachineGuesses.l0 kq l0 x5_2 t197 x7_2 = some r) ∧ Aside0 (kq ≤ kj2) ∧ Aside0 (Kd.R Kd.string 9 w' w.heap.size (fun _ => True) v5 x5_2) ∧ Aside0 (Kd.V Kd.string 9 w' w.heap.size (fun k_ => some k_ ≠ (v5 : Value).ownBlock) v198 t197) ∧ Aside0 (Below w.heap.size w w'))
   case atStart => exact ⟨(y192), (0), sq, H', ⟨Nat.le_refl _⟩, ⟨rq HO_5.out⟩, ⟨vq HO199.out⟩, ⟨bel⟩⟩
   case round =>
    clear H'; (try clear c1); (try clear c2); (try clear p2); (try clear c3); (try clear c7); (try clear c11); (try clear p2); obtain ⟨x5_2, x7_2, rfl, HA, HK2, HO_5, HO_6, HB⟩ := hrel
    cases gk with
    | zero => exact absurd HA.out (by simp [spec_MachineGuesses.l0])
    | succ k2 =>
     have H := HA.out; clear HA
     simp only [spec_MachineGuesses.l0] at H
     by_cases c14 : x7_2 < (t197.length : Int)
     ·rw [if_pos c14] at H; have c14b0 := decide_eq_true c14; clear c14
      replace H := it H; obtain ⟨c15b0, H⟩ := H; replace H := bs H; obtain ⟨t201, A160, H⟩ := H; replace H : (if t201 ≥ 0 then (if 0 ≤ t201 then (if t201 < (l0.length : Int) then (if (rd_T94 l0 t201).f0 = true then (if x5_2.length < 8796093022208 then (spec_MachineGuesses.l0 k2 l0 (x5_2 ++ [rdOf ByteArray.empty t197 x7_2]) t197 (wrap64 (x7_2 + 1))) else (none)) else (spec_MachineGuesses.l0 k2 l0 x5_2 t197 (wrap64 (x7_2 + 1)))) else (none)) else (none)) else (spec_MachineGuesses.l0 k2 l0 x5_2 t197 (wrap64 (x7_2 + 1)))) = some r := H; have A16 := Aside0.mk A160; clear A160
      by_cases c17 : t201 ≥ 0
      ·rw [if_pos c17] at H; have c17b0 := decide_eq_true c17; clear c17
       replace H := it H; obtain ⟨c18b0, H⟩ := H
       replace H := it H; obtain ⟨c19b0, H⟩ := H; obtain ⟨bq20, hbq20⟩ : ∃ b_ : Bool, b_ = ((rd_T94 l0 t201).f0) := ⟨_, rfl⟩
       replace H : (if bq20 = true then (if x5_2.length < 8796093022208 then (spec_MachineGuesses.l0 k2 l0 (x5_2 ++ [rdOf ByteArray.empty t197 x7_2]) t197 (wrap64 (x7_2 + 1))) else (none)) else (spec_MachineGuesses.l0 k2 l0 x5_2 t197 (wrap64 (x7_2 + 1)))) = some r := by rw [← hbq20] at H; exact H
       have Nbq20 := am hbq20; clear hbq20
       by_cases c21 : bq20 = true
       ·subst c21
        have H1 : (if x5_2.length < 8796093022208 then (spec_MachineGuesses.l0 k2 l0 (x5_2 ++ [rdOf ByteArray.empty t197 x7_2]) t197 (wrap64 (x7_2 + 1))) else (none)) = some r := b11_
        replace H := H1; clear H1
        replace H := ip H; obtain ⟨c22, H⟩ := H; have LMc22 := Aside0.mk c22; clear c22; obtain ⟨y204, hy204⟩ : ∃ y_ : List ByteArray, y_ = (x5_2 ++ [rdOf ByteArray.empty t197 x7_2]) := ⟨_, rfl⟩
        replace H : (spec_MachineGuesses.l0 k2 l0 y204 t197 (wrap64 (x7_2 + 1))) = some r := by first | (rw [hy204]; with_reducible exact H) | (have H2_ := bm H; rw [hy204]; with_reducible exact H2_) | (with_reducible exact bm H) | with_reducible exact H | (rw [hy204]; exact H) | exact H
        have Ny204 := am hy204; clear hy204
        have H' := am H
        clear H; obtain ⟨Ao23, co23, eo23⟩ := Kd.V_slice HO_6.out; subst eo23
        have p200 : 0 ≤ (x7_2 : Int) := of_decide_eq_true ad
        have q200 : x7_2 < (t197.length : Int) := of_decide_eq_true ad
        obtain ⟨ad200, e200, hx200_0⟩ := Kd.at_string (Kd.V_reads' HO_6.out).2.2 x7_2 p200 q200
        cases e200
        replace p200 := eq_true p200; replace q200 := eq_true q200
        go_wp2_with (first | ((with_reducible refine gate_callee (f := 71) rfl ?_); refine goesL_ (some 32) rfl rfl Try.func71 (by kernel_rfl) rfl #[.slice A0 l0.length c0, .string (rdOf ByteArray.empty t197 x7_2)] rfl mq ?_; (with_reducible refine (spec_l3Go.calls k2 _ _ l0 (rdOf ByteArray.empty t197 x7_2) t201 _ ?side1 ?side2 A16.out).mono ?_); (case side1 => exact cq (Kd.C_below HR0.out HB.out)); (case side2 => exact HC0.out); rintro e w' ⟨rfl, ⟨nd, rfl⟩⟩; refine ⟨_, rfl, ?_⟩; have p202 : 0 ≤ (t201 : Int) := of_decide_eq_true ad; have q202 : t201 < (l0.length : Int) := of_decide_eq_true ad; obtain ⟨ad202, A202_1, c202_1, e202, hx202_0, hx202_1, hl202_1, hi202_1⟩ := at_T94 HR0.out t201 p202 q202; (try rw [← Nbq20.out] at hx202_0); cases e202; replace hx202_0 := kp HB.out hx202_0; replace hx202_1 := kp HB.out hx202_1; have HR202_1 := am hi202_1; have HC202_1 := am hl202_1; clear hi202_1 hl202_1; replace p202 := eq_true p202; replace q202 := eq_true q202; have p203 : 0 ≤ (x7_2 : Int) := of_decide_eq_true ad; have q203 : x7_2 < (t197.length : Int) := of_decide_eq_true ad; obtain ⟨ad203, e203, hx203_0⟩ := Kd.at_string (Kd.V_reads' HO_6.out).2.2 x7_2 p203 q203; obtain rfl : ad200 = ad203 := (by injection e203); replace p203 := eq_true p203; replace q203 := eq_true q203) | ((with_reducible refine gate_builtin (b := .append) (xs := #[.tmp 42, .tmp 47]) rfl ?_); at_builtin; refine Kd.R_append Kd.string (w0 := w) w.heap.size rfl (.tmp 42) (.tmp 47) 22 9 (.string ⟨#[]⟩) 16 rfl Try.underlying22 info9 rfl (by decide) (by omega) u5 x5_2 (rdOf ByteArray.empty t197 x7_2) [.string (rdOf ByteArray.empty t197 x7_2)] (fun _ => True) (fun _ => False) rfl rfl ?aP (fun _ hk => hk.elim) ?aF ?aO ?aB ?aS ?aL ?_; (case aP => exact rfl); (case aB => exact bel); (case aF => exact (fun _ _ => trivial)); (case aO => exact (rq HO_5.out)); (case aS => exact (below_size bel)); (case aL => have := LMc22.out; omega); intro v205 w24 ho hb hg hat; rw [← Ny204.out] at ho; replace HO_6 := am (Kd.V_afterv (ok := (fun _ => True)) (vq (Kd.V_mono HO_6.out (fun _ hk => ⟨trivial, hk⟩))) hg hat); replace HB := am (hb); have HO206 := am (ho); clear HO_5; clear ho hb hg hat))
        go_roundg k2
        case measure => have := HJ2.out; have := HK2.out; omega
        case rel => exact ⟨(y204), (wrap64 (x7_2 + 1)), sq, H', ⟨by have := HJ2.out; have := HK2.out; omega⟩, ⟨rq HO206.out⟩, ⟨vq (Kd.V_mono HO_6.out (fun _ hk => hk.2))⟩, ⟨bel⟩⟩
       replace c21 := Bool.eq_false_iff.mpr c21; subst c21
       (try rw [← Nbq20.out] at hx187_0)
       (try rw [← Nbq20.out])
       have H1 : (spec_MachineGuesses.l0 k2 l0 x5_2 t197 (wrap64 (x7_2 + 1))) = some r := b5_
       replace H := H1; clear H1
       have H' := am H
       clear H; obtain ⟨Ao25, co25, eo25⟩ := Kd.V_slice HO_6.out; subst eo25
       have p200 : 0 ≤ (x7_2 : Int) := of_decide_eq_true ad
       have q200 : x7_2 < (t197.length : Int) := of_decide_eq_true ad
       obtain ⟨ad200, e200, hx200_0⟩ := Kd.at_string (Kd.V_reads' HO_6.out).2.2 x7_2 p200 q200
       cases e200
       replace p200 := eq_true p200; replace q200 := eq_true q200
       go_wp2_with (first | ((with_reducible refine gate_callee (f := 71) rfl ?_); refine goesL_ (some 32) rfl rfl Try.func71 (by kernel_rfl) rfl #[.slice A0 l0.length c0, .string (rdOf ByteArray.empty t197 x7_2)] rfl mq ?_; (with_reducible refine (spec_l3Go.calls k2 _ _ l0 (rdOf ByteArray.empty t197 x7_2) t201 _ ?side1 ?side2 A16.out).mono ?_); (case side1 => exact cq (Kd.C_below HR0.out HB.out)); (case side2 => exact HC0.out); rintro e w' ⟨rfl, ⟨nd, rfl⟩⟩; refine ⟨_, rfl, ?_⟩; have p202 : 0 ≤ (t201 : Int) := of_decide_eq_true ad; have q202 : t201 < (l0.length : Int) := of_decide_eq_true ad; obtain ⟨ad202, A202_1, c202_1, e202, hx202_0, hx202_1, hl202_1, hi202_1⟩ := at_T94 HR0.out t201 p202 q202; (try rw [← Nbq20.out] at hx202_0); cases e202; replace hx202_0 := kp HB.out hx202_0; replace hx202_1 := kp HB.out hx202_1; have HR202_1 := am hi202_1; have HC202_1 := am hl202_1; clear hi202_1 hl202_1; replace p202 := eq_true p202; replace q202 := eq_true q202))
       go_roundg k2
       case measure => have := HJ2.out; have := HK2.out; omega
       case rel => (try rw [← Nbq20.out]); exact ⟨(x5_2), (wrap64 (x7_2 + 1)), sq, H', ⟨by have := HJ2.out; have := HK2.out; omega⟩, ⟨rq HO_5.out⟩, ⟨vq HO_6.out⟩, ⟨bel⟩⟩
      rw [if_neg c17] at H; have c17b0 := decide_eq_false c17; clear c17
      have H' := am H
      clear H; obtain ⟨Ao26, co26, eo26⟩ := Kd.V_slice HO_6.out; subst eo26
      have p200 : 0 ≤ (x7_2 : Int) := of_decide_eq_true ad
      have q200 : x7_2 < (t197.length : Int) := of_decide_eq_true ad
      obtain ⟨ad200, e200, hx200_0⟩ := Kd.at_string (Kd.V_reads' HO_6.out).2.2 x7_2 p200 q200
      cases e200
      replace p200 := eq_true p200; replace q200 := eq_true q200
      go_wp2_with (first | ((with_reducible refine gate_callee (f := 71) rfl ?_); refine goesL_ (some 32) rfl rfl Try.func71 (by kernel_rfl) rfl #[.slice A0 l0.length c0, .string (rdOf ByteArray.empty t197 x7_2)] rfl mq ?_; (with_reducible refine (spec_l3Go.calls k2 _ _ l0 (rdOf ByteArray.empty t197 x7_2) t201 _ ?side1 ?side2 A16.out).mono ?_); (case side1 => exact cq (Kd.C_below HR0.out HB.out)); (case side2 => exact HC0.out); rintro e w' ⟨rfl, ⟨nd, rfl⟩⟩; refine ⟨_, rfl, ?_⟩))
      go_roundg k2
      case measure => have := HJ2.out; have := HK2.out; omega
      case rel => exact ⟨(x5_2), (wrap64 (x7_2 + 1)), sq, H', ⟨by have := HJ2.out; have := HK2.out; omega⟩, ⟨rq HO_5.out⟩, ⟨vq HO_6.out⟩, ⟨bel⟩⟩
     rw [if_neg c14] at H; have c14b0 := decide_eq_false c14; clear c14; obtain rfl := Option.some.inj H; obtain ⟨Ao27, co27, eo27⟩ := Kd.V_slice HO_6.out; subst eo27; go_wp2; go_ret
     exact ⟨_, eq_, by (with_reducible repeat (first | apply Kd.R_alloc | apply Kd.R_drewN | apply Kd.R_drew)); exact HO_5.out, bel⟩

/-! ### laws_toEdge: function 141 -/
def laws_toEdge.f (a0_0 : Int) (a0_1 : Int) : Option (Int × Int) := some (a0_0, a0_1)
theorem laws_toEdge.calls (a0_0 : Int) (a0_1 : Int) (r1 : Int) (r2 : Int) (w : World) (h : laws_toEdge.f a0_0 a0_1 = some (r1, r2)) :
  Calls Try.prog 141 #[.agg #[.int .i64 a0_0, .int .i64 a0_1]] w fun e w' => e = .returned (.agg #[.int .i64 r1, .int .i64 r2]) ∧ Below w.heap.size w w' := by
 have hu156 := Try.underlying156; have hu100 := Try.underlying100; have HB := am (Below.refl w.heap.size w)
 have H : (some (a0_0, a0_1)) = some (r1, r2) := h
 clear h
 simp only [Option.some.injEq, Prod.mk.injEq] at H
 obtain ⟨rfl, rfl⟩ := H; go_enter Try.func141, Try.ntmps141
 go_wp2_with (first | ((with_reducible refine gate_dst (N := 1) rfl ?_); refine bx 1 (cs := #[.int .i64 a0_0, .int .i64 a0_1]) (t := 156) ?_; intro gb207 hg w2 hbox hb; have BK207 := am (hbox); have GW207 := am ((b7_ : w.heap.size ≤ gb207)); have GE207 := am ((b7_ : w.heap.size ≤ gb207)); replace HB := am (below_step bel hb); clear hb hbox hg) | ((with_reducible refine gate_dst (N := 2) rfl ?_); refine bx 2 (cs := #[.int .i64 0, .int .i64 0]) (t := 100) ?_; intro gb208 hg w3 hbox hb; have BK208 := am (hbox); have GW208 := am ((by rw [hg]; exact (below_size (bel1 GE207.out)) : w.heap.size ≤ gb208)); have GE208 := am ((by rw [hg]; exact (below_size (bel1 GE207.out)) : w.heap.size ≤ gb208)); replace HB := am (below_step (bel1 GE207.out) hb); have NB207_208 := am ((b34_ : gb207 ≠ gb208)); have NB208_207 := am ((b35_ : gb208 ≠ gb207)); replace BK207 := am (blk_below (g := gb207) (o := .cells #[.int .i64 a0_0, .int .i64 a0_1] 156 (0, 0)) (bq BK207.out) hb); clear hb hbox hg) | ((with_reducible refine gate_dst (N := 3) rfl ?_); refine bx 3 (cs := #[.int .i64 0, .int .i64 0]) (t := 100) ?_; intro gb209 hg w4 hbox hb; have BK209 := am (hbox); have GW209 := am ((by rw [hg]; exact (below_size (bel2 GE207.out GE208.out)) : w.heap.size ≤ gb209)); have GE209 := am ((by rw [hg]; exact (below_size (bel2 GE207.out GE208.out)) : w.heap.size ≤ gb209)); replace HB := am (below_step (bel2 GE207.out GE208.out) hb); have NB207_209 := am ((b34_ : gb207 ≠ gb209)); have NB209_207 := am ((b35_ : gb209 ≠ gb207)); replace BK207 := am (blk_below (g := gb207) (o := .cells #[.int .i64 a0_0, .int .i64 a0_1] 156 (0, 0)) (bq BK207.out) hb); have NB208_209 := am ((by rw [hg]; exact Nat.ne_of_lt (blk_lt (g := gb208) (o := .cells #[.int .i64 0, .int .i64 0] 100 (0, 0)) (bq BK208.out)) : gb208 ≠ gb209)); have NB209_208 := am ((by rw [hg]; exact Nat.ne_of_gt (blk_lt (g := gb208) (o := .cells #[.int .i64 0, .int .i64 0] 100 (0, 0)) (bq BK208.out)) : gb209 ≠ gb208)); replace BK208 := am (blk_below (g := gb208) (o := .cells #[.int .i64 0, .int .i64 0] 100 (0, 0)) (bq BK208.out) hb); clear hb hbox hg; have hnb5 := NB207_208.out; have hnc5 := NB208_207.out; have hnb6 := NB207_209.out; have hnc6 := NB209_207.out; have hcz7_0 := bc BK207.out 0; have hcz7_1 := bc BK207.out 1; have hfz7_0 := bf BK207.out 0; have hfz7_1 := bf BK207.out 1; have hnb8 := NB209_208.out; have hnc8 := NB208_209.out; have hcz9_0 := bc BK209.out 0; have hcz9_1 := bc BK209.out 1; have hfz9_0 := bf BK209.out 0; have hfz9_1 := bf BK209.out 1; have hcz10_0 := bc BK208.out 0; have hcz10_1 := bc BK208.out 1; have hfz10_0 := bf BK208.out 0; have hfz10_1 := bf BK208.out 1))
 refine bodyPost_ret (results_cell_row rfl _ _ gb208 100 #[.int .i64 a0_0, .int .i64 a0_1] (0, 0) _ rfl (by (with_reducible repeat (first | refine blk_drewN ?_ _ | refine blk_drew ?_ | refine blk_alloc ?_ _)); refine blk_put (cs := #[.int .i64 a0_0, .int .i64 0]) ?_ 1 _ rfl; (with_reducible repeat (first | refine blk_drewN ?_ _ | refine blk_drew ?_ | refine blk_alloc ?_ _)); refine blk_put (cs := #[.int .i64 0, .int .i64 0]) ?_ 0 _ rfl; (with_reducible repeat (first | refine blk_drewN ?_ _ | refine blk_drew ?_ | refine blk_alloc ?_ _)); refine blk_far ?_ NB208_209.out _; (with_reducible repeat (first | refine blk_drewN ?_ _ | refine blk_drew ?_ | refine blk_alloc ?_ _)); refine blk_far ?_ NB208_209.out _; (with_reducible repeat (first | refine blk_drewN ?_ _ | refine blk_drew ?_ | refine blk_alloc ?_ _)); exact BK208.out) Try.underlying100 rfl (by kernel_rfl)) rfl ?_
 exact ⟨eq_, bel3 GE207.out GE208.out GE209.out⟩

/-! ### laws_toEdgeS: function 114 -/
def laws_toEdgeS.l0 : Nat → List (S156) → List (S100) → Int → Option ((List (S100)))
 | 0, _, _, _ => none
 | k + 1, x0, x3, x4 => if x4 < (x0.length : Int) then (if 0 ≤ x4 then ((laws_toEdge.f ((rd_T156 x0 x4).f0) ((rd_T156 x0 x4).f1)).bind fun bt214 => (if x4 < (x3.length : Int) then (laws_toEdgeS.l0 k x0 (x3.set (x4 : Int).toNat (⟨bt214.1, bt214.2⟩ : S100)) (wrap64 (x4 + 1))) else (none))) else (none)) else (some x3)
def laws_toEdgeS.f (k : Nat) (l0 : List (S156)) : Option ((List (S100))) := if 0 ≤ (l0.length : Int) then (if l0.length ≤ 17592186044416 then (laws_toEdgeS.l0 k l0 (List.replicate l0.length z100) 0) else (none)) else (none)
theorem laws_toEdgeS.calls (k : Nat) (A0 : Option Addr) (c0 : Nat) (l0 : List (S156)) (r : List (S100)) (w : World) (hr0 : Kd.C k156 w A0 l0.length l0) (hc0 : l0.length ≤ c0) (h : laws_toEdgeS.f k l0 = some r) :
  Calls Try.prog 114 #[.slice A0 l0.length c0] w fun e w' => ∃ v0_ : Value, e = .returned (v0_) ∧ Kd.R k100 100 w' w.heap.size (fun _ => True) v0_ r ∧ Below w.heap.size w w' := by
 have hu156 := Try.underlying156; have hu100 := Try.underlying100; have HR0 := am hr0; have HC0 := am hc0; clear hr0 hc0; have HB := am (Below.refl w.heap.size w)
 have H : (if 0 ≤ (l0.length : Int) then (if l0.length ≤ 17592186044416 then (laws_toEdgeS.l0 k l0 (List.replicate l0.length z100) 0) else (none)) else (none)) = some r := h
 clear h
 replace H := ip H; obtain ⟨c2, H⟩ := H; have c2b0 := eq_true c2
 have c2b1 : decide (0 ≤ (l0.length : Int)) = true := decide_eq_true c2
 clear c2
 replace H := ip H; obtain ⟨c3, H⟩ := H; have c3b0 := eq_true c3
 have c3b1 : decide (l0.length ≤ 17592186044416) = true := decide_eq_true c3
 clear c3; obtain ⟨y210, hy210⟩ : ∃ y_ : List (S100), y_ = (List.replicate l0.length z100) := ⟨_, rfl⟩
 replace H : (laws_toEdgeS.l0 k l0 y210 0) = some r := by first | (rw [hy210]; with_reducible exact H) | (have H2_ := bm H; rw [hy210]; with_reducible exact H2_) | (with_reducible exact bm H) | with_reducible exact H | (rw [hy210]; exact H) | exact H
 have Ny210 := am hy210; clear hy210
 have H' := am H
 clear H; go_enter Try.func114, Try.ntmps114
 go_wp2_with (first | ((with_reducible refine gate_dst (N := 7) rfl ?_); refine Kd.R_make k100 _ 100 rfl (N := 7) rfl 92 _ _ rfl (l0.length : Int) rfl rfl Try.underlying92 (.agg #[(.int .i64 0), (.int .i64 0)]) 16 info100 rfl (by decide) (by omega) z100 (ok := fun _ => True) (okp := fun _ => True) (k100_mkM _ _ _ z100 ) (fun _ hk => hk) trivial (of_decide_eq_true ad) (Nat.le_trans (Nat.mul_le_mul_right _ (of_decide_eq_true ad : (l0.length : Int).toNat ≤ 17592186044416)) (by omega)) (Below.refl _ _) (Nat.le_refl _) ?_; intro v211 w4 ho5 hb hg_ hnew_; clear hg_ hnew_; (first | rw [← Ny210.out] at ho5 | (simp only [Int.reduceToNat] at ho5; rw [← Ny210.out] at ho5) | (simp only [Int.toNat_natCast] at ho5; rw [← Ny210.out] at ho5)); have HO212 := am (Kd.R_lower ho5 (below_size bel)); replace HB := am (below_step bel hb); clear hb ho5))
 go_loopg [4] k (fun kq v4 w' => ∃ (x3_1 : List (S100)) (x4_1 : Int), v4 = .int .i64 x4_1 ∧ Aside0 (laws_toEdgeS.l0 kq l0 x3_1 x4_1 = some r) ∧ Aside0 (kq ≤ k) ∧ Aside0 (Kd.R k100 100 w' w.heap.size (fun _ => True) v211 x3_1) ∧ Aside0 (Below w.heap.size w w'))
 case atStart => exact ⟨(y210), (0), sq, H', ⟨Nat.le_refl _⟩, ⟨rq HO212.out⟩, ⟨bel⟩⟩
 case round =>
  clear H'; (try clear c1); (try clear c2); (try clear c2b0); (try clear c2b1); (try clear p2); (try clear c3); (try clear c3b0); (try clear c3b1); obtain ⟨x3_1, x4_1, rfl, HA, HK1, HO_3, HB⟩ := hrel
  cases gk with
  | zero => exact absurd HA.out (by simp [laws_toEdgeS.l0])
  | succ k1 =>
   have H := HA.out; clear HA
   simp only [laws_toEdgeS.l0] at H
   by_cases c6 : x4_1 < (l0.length : Int)
   ·rw [if_pos c6] at H; have c6b0 := decide_eq_true c6; clear c6
    replace H := it H; obtain ⟨c7b0, H⟩ := H; replace H := bs H; obtain ⟨⟨t214, t215⟩, A80, H⟩ := H; replace H : (if x4_1 < (x3_1.length : Int) then (laws_toEdgeS.l0 k1 l0 (x3_1.set (x4_1 : Int).toNat (⟨t214, t215⟩ : S100)) (wrap64 (x4_1 + 1))) else (none)) = some r := H; have A8 := Aside0.mk A80; clear A80
    replace H := it H; obtain ⟨c9b0, H⟩ := H; obtain ⟨y216, hy216⟩ : ∃ y_ : List (S100), y_ = (x3_1.set (x4_1 : Int).toNat (⟨t214, t215⟩ : S100)) := ⟨_, rfl⟩
    replace H : (laws_toEdgeS.l0 k1 l0 y216 (wrap64 (x4_1 + 1))) = some r := by first | (rw [hy216]; with_reducible exact H) | (have H2_ := bm H; rw [hy216]; with_reducible exact H2_) | (with_reducible exact bm H) | with_reducible exact H | (rw [hy216]; exact H) | exact H
    have Ny216 := am hy216; clear hy216
    have H' := am H
    clear H
    have p213 : 0 ≤ (x4_1 : Int) := of_decide_eq_true ad
    have q213 : x4_1 < (l0.length : Int) := of_decide_eq_true ad
    obtain ⟨ad213, e213, hx213_0, hx213_1⟩ := at_T156 HR0.out x4_1 p213 q213
    cases e213
    replace hx213_0 := kp HB.out hx213_0; replace hx213_1 := kp HB.out hx213_1; replace p213 := eq_true p213; replace q213 := eq_true q213
    go_wp2_with (first | ((with_reducible refine gate_callee (f := 141) rfl ?_); refine goesL_ (some 20) rfl rfl Try.func141 (by kernel_rfl) rfl #[.agg #[.int .i64 ((rd_T156 l0 x4_1).f0), .int .i64 ((rd_T156 l0 x4_1).f1)]] rfl mq ?_; (with_reducible refine (laws_toEdge.calls ((rd_T156 l0 x4_1).f0) ((rd_T156 l0 x4_1).f1) t214 t215 _ A8.out).mono ?_); rintro e w11 ⟨rfl, hb⟩; refine ⟨_, rfl, ?_⟩; replace HO_3 := am (Kd.R_below (rq HO_3.out) hb); replace HB := am (below_step bel hb); (try clear hb); (try clear hb2); (try clear hk); (try clear hi); have p10 : 0 ≤ (x4_1 : Int) := of_decide_eq_true ad; have q10 : (x4_1 : Int) < ((x3_1.length : Int) : Int) := of_decide_eq_true ad; obtain ⟨go10, co10, eo10, gb10, gl10, cl10, HG10⟩ := Kd.R_form HO_3.out (by omega); (first | cases eo10 | (injection eo10 with ea_ en_ ec_; (first | subst ea_ | (injection ea_ with ea_; subst ea_)); subst ec_; clear en_)); have GB10 := Aside0.mk gb10; have GG10 := am HG10; clear gb10 gl10 HG10; obtain ⟨ce10, hcl10, hM10, hcc10, hfr10⟩ := Kd.R_elem HO_3.out z100 (x4_1 : Int) p10 q10; obtain rfl := k100_openM hM10; have hx10_0 : w11.cell? ⟨go10, (x4_1 : Int).toNat * 2, none⟩ = some (.int .i64 ((rd_T100 x3_1 x4_1).f0)) := hcc10 0 _ rfl; have hx10_1 : w11.cell? ⟨go10, (x4_1 : Int).toNat * 2 + 1, none⟩ = some (.int .i64 ((rd_T100 x3_1 x4_1).f1)) := hcc10 1 _ rfl; have hf10_0 : w11.frozen? ⟨go10, (x4_1 : Int).toNat * 2, none⟩ = false := hfr10 0; have hf10_1 : w11.frozen? ⟨go10, (x4_1 : Int).toNat * 2 + 1, none⟩ = false := hfr10 1; clear hcl10 hcc10 hfr10; (try clear hM10); replace p10 := eq_true p10; replace q10 := eq_true q10; have HX12 := am (show Kd.R k100 100 w11 w.heap.size (fun _ => True) (.slice (some ⟨go10, 0, none⟩) x3_1.length co10) x3_1 from (rq HO_3.out)); obtain ⟨ce12, hcl12, hM12, hcc12, hfr12⟩ := Kd.R_elem HX12.out z100 (x4_1 : Int) (of_decide_eq_true ad) b22_; obtain rfl := k100_openM hM12; have HP12 := Kd.R_seg HX12.out (x4_1 : Int) (of_decide_eq_true ad) b22_ (seg := [.int .i64 t214, .int .i64 t215]) (j := 0) hcl12 hcc12 (show 2 ≤ 2 from by decide) (x' := (⟨t214, t215⟩ : S100)) (k100_mkM _ _ _ (⟨t214, t215⟩ : S100) ) (fun _ hk => hk); have hx12_0 := hcc12 0 _ rfl; (try simp only [show (k100).sz = 2 from rfl, Nat.mul_one, Nat.add_zero] at hx12_0); have hf12_0 := hfr12 0; (try simp only [show (k100).sz = 2 from rfl, Nat.mul_one, Nat.add_zero] at hf12_0); have hx12_1 := hcc12 1 _ rfl; (try simp only [show (k100).sz = 2 from rfl, Nat.mul_one, Nat.add_zero] at hx12_1); have hf12_1 := hfr12 1; (try simp only [show (k100).sz = 2 from rfl, Nat.mul_one, Nat.add_zero] at hf12_1); clear hcl12 hcc12 hfr12; (try clear hM12)) | ((with_reducible refine gate_store (t := 100) (p := 21) rfl ?_); refine store_event (t := 100) (p := 21) (v := ?vo_w13) (w1 := ((w11.setCell ⟨go10, (x4_1 : Int).toNat * 2, none⟩ (.int .i64 t214)).setCell ⟨go10, (x4_1 : Int).toNat * 2 + 1, none⟩ (.int .i64 t215))) ?hg ?ho ?hn ?hr ?_; (case ho => rfl); (case hg => rfl); (case hn => rfl); (case hr => first | (go_simp; done) | (go_simp; rfl)); intro w13 hw; have hg : w11.grownBy w13 (some go10) := (by rw [hw]; exact HP12.2); have hp_ : Kd.R k100 100 w13 w.heap.size (fun _ => True) (.slice (some ⟨go10, 0, none⟩) x3_1.length co10) y216 := (by rw [hw, Ny216.out]; exact HP12.1); clear HP12; replace HO_3 := am (hp_); replace HB := am ((by rw [hw]; exact below_set (below_set (HB.out) GB10.out) GB10.out : Below w.heap.size w w13)); clear hg hw hp_))
    go_roundg k1
    case measure => have := HK1.out; omega
    case rel => exact ⟨(y216), (wrap64 (x4_1 + 1)), sq, H', ⟨b21_⟩, ⟨rq HO_3.out⟩, ⟨bel⟩⟩
   rw [if_neg c6] at H; have c6b0 := decide_eq_false c6; clear c6; obtain rfl := Option.some.inj H; go_wp2; go_ret
   exact ⟨_, eq_, by (with_reducible repeat (first | apply Kd.R_alloc | apply Kd.R_drewN | apply Kd.R_drew)); exact HO_3.out, bel⟩

/-! ### laws_toState: function 72 -/
def laws_toState.f (k : Nat) (a0_0 : Bool) (l0_1 : List (S156)) : Option (Bool × (List (S100))) := (laws_toEdgeS.f k l0_1).bind fun t220 => (some (a0_0, t220))
theorem laws_toState.calls (k : Nat) (a0_0 : Bool) (A0_1 : Option Addr) (c0_1 : Nat) (l0_1 : List (S156)) (r1 : Bool) (r2 : List (S100)) (w : World) (hr0_1 : Kd.C k156 w A0_1 l0_1.length l0_1) (hc0_1 : l0_1.length ≤ c0_1) (h : laws_toState.f k a0_0 l0_1 = some (r1, r2)) :
  Calls Try.prog 72 #[.agg #[.bool a0_0, .slice A0_1 l0_1.length c0_1]] w fun e w' => ∃ v1_ : Value, e = .returned (.agg #[.bool r1, v1_]) ∧ Kd.R k100 100 w' w.heap.size (fun _ => True) v1_ r2 ∧ Below w.heap.size w w' := by
 have hu90 := Try.underlying90; have hu94 := Try.underlying94; have HR0_1 := am hr0_1; have HC0_1 := am hc0_1; clear hr0_1 hc0_1; have HB := am (Below.refl w.heap.size w)
 have H : ((laws_toEdgeS.f k l0_1).bind fun t220 => (some (a0_0, t220))) = some (r1, r2) := h
 clear h; replace H := bs H; obtain ⟨t220, A20, H⟩ := H; replace H : (some (a0_0, t220)) = some (r1, r2) := H; have A2 := Aside0.mk A20; clear A20
 simp only [Option.some.injEq, Prod.mk.injEq] at H
 obtain ⟨rfl, rfl⟩ := H; go_enter Try.func72, Try.ntmps72
 go_wp2_with (first | ((with_reducible refine gate_dst (N := 1) rfl ?_); refine bx 1 (cs := #[.bool a0_0, .slice A0_1 l0_1.length c0_1]) (t := 90) ?_; intro gb217 hg w3 hbox hb; have BK217 := am (hbox); have GW217 := am ((b7_ : w.heap.size ≤ gb217)); have GE217 := am ((b7_ : w.heap.size ≤ gb217)); replace HB := am (below_step bel hb); clear hb hbox hg) | ((with_reducible refine gate_dst (N := 2) rfl ?_); refine bx 2 (cs := #[.bool false, .slice none 0 0]) (t := 94) ?_; intro gb218 hg w4 hbox hb; have BK218 := am (hbox); have GW218 := am ((by rw [hg]; exact (below_size (bel1 GE217.out)) : w.heap.size ≤ gb218)); have GE218 := am ((by rw [hg]; exact (below_size (bel1 GE217.out)) : w.heap.size ≤ gb218)); replace HB := am (below_step (bel1 GE217.out) hb); have NB217_218 := am ((b31_ : gb217 ≠ gb218)); have NB218_217 := am ((b32_ : gb218 ≠ gb217)); replace BK217 := am (blk_below (g := gb217) (o := .cells #[.bool a0_0, .slice A0_1 l0_1.length c0_1] 90 (0, 0)) (bq BK217.out) hb); clear hb hbox hg) | ((with_reducible refine gate_dst (N := 3) rfl ?_); refine bx 3 (cs := #[.bool false, .slice none 0 0]) (t := 94) ?_; intro gb219 hg w5 hbox hb; have BK219 := am (hbox); have GW219 := am ((by rw [hg]; exact (below_size (bel2 GE217.out GE218.out)) : w.heap.size ≤ gb219)); have GE219 := am ((by rw [hg]; exact (below_size (bel2 GE217.out GE218.out)) : w.heap.size ≤ gb219)); replace HB := am (below_step (bel2 GE217.out GE218.out) hb); have NB217_219 := am ((b31_ : gb217 ≠ gb219)); have NB219_217 := am ((b32_ : gb219 ≠ gb217)); replace BK217 := am (blk_below (g := gb217) (o := .cells #[.bool a0_0, .slice A0_1 l0_1.length c0_1] 90 (0, 0)) (bq BK217.out) hb); have NB218_219 := am ((by rw [hg]; exact Nat.ne_of_lt (blk_lt (g := gb218) (o := .cells #[.bool false, .slice none 0 0] 94 (0, 0)) (bq BK218.out)) : gb218 ≠ gb219)); have NB219_218 := am ((by rw [hg]; exact Nat.ne_of_gt (blk_lt (g := gb218) (o := .cells #[.bool false, .slice none 0 0] 94 (0, 0)) (bq BK218.out)) : gb219 ≠ gb218)); replace BK218 := am (blk_below (g := gb218) (o := .cells #[.bool false, .slice none 0 0] 94 (0, 0)) (bq BK218.out) hb); clear hb hbox hg; have hnb6 := NB217_218.out; have hnc6 := NB218_217.out; have hnb7 := NB217_219.out; have hnc7 := NB219_217.out; have hcz8_0 := bc BK217.out 0; have hcz8_1 := bc BK217.out 1; have hfz8_0 := bf BK217.out 0; have hfz8_1 := bf BK217.out 1; have hnb9 := NB219_218.out; have hnc9 := NB218_219.out; have hcz10_0 := bc BK219.out 0; have hcz10_1 := bc BK219.out 1; have hfz10_0 := bf BK219.out 0; have hfz10_1 := bf BK219.out 1) | ((with_reducible refine gate_callee (f := 114) rfl ?_); refine goesL_ (some 9) rfl rfl Try.func114 (by kernel_rfl) rfl #[.slice A0_1 l0_1.length c0_1] rfl mq ?_; (with_reducible refine (laws_toEdgeS.calls k _ _ l0_1 t220 _ ?side1 ?side2 A2.out).mono ?_); (case side1 => exact Kd.C_below HR0_1.out (bel3 GE217.out GE218.out GE219.out)); (case side2 => exact HC0_1.out); rintro e w11 ⟨v221, rfl, ho0, hb⟩; refine ⟨_, rfl, ?_⟩; have HO222 := am (Kd.R_lower ho0 (below_size (bel3 GE217.out GE218.out GE219.out))); replace BK217 := am (blk_below (g := gb217) (o := .cells #[.bool a0_0, .slice A0_1 l0_1.length c0_1] 90 (0, 0)) (by (with_reducible repeat (first | refine blk_drewN ?_ _ | refine blk_drew ?_ | refine blk_alloc ?_ _)); refine blk_far ?_ NB217_219.out _; (with_reducible repeat (first | refine blk_drewN ?_ _ | refine blk_drew ?_ | refine blk_alloc ?_ _)); exact BK217.out) hb); replace BK218 := am (blk_below (g := gb218) (o := .cells #[.bool false, .slice none 0 0] 94 (0, 0)) (by (with_reducible repeat (first | refine blk_drewN ?_ _ | refine blk_drew ?_ | refine blk_alloc ?_ _)); refine blk_far ?_ NB218_219.out _; (with_reducible repeat (first | refine blk_drewN ?_ _ | refine blk_drew ?_ | refine blk_alloc ?_ _)); exact BK218.out) hb); replace BK219 := am (blk_below (g := gb219) (o := .cells #[.bool a0_0, .slice none 0 0] 94 (0, 0)) (by (with_reducible repeat (first | refine blk_drewN ?_ _ | refine blk_drew ?_ | refine blk_alloc ?_ _)); refine blk_put (cs := #[.bool false, .slice none 0 0]) ?_ 0 _ rfl; (with_reducible repeat (first | refine blk_drewN ?_ _ | refine blk_drew ?_ | refine blk_alloc ?_ _)); exact BK219.out) hb); replace HB := am (below_step (bel3 GE217.out GE218.out GE219.out) hb); (try clear hb); (try clear hb2); (try clear hk); (try clear hi); (try clear ho0); obtain ⟨Ao12, co12, eo12⟩ := Kd.R_slice HO222.out; subst eo12; have hcz13_0 := bc BK219.out 0; have hcz13_1 := bc BK219.out 1; have hfz13_0 := bf BK219.out 0; have hfz13_1 := bf BK219.out 1; have hcz14_0 := bc BK218.out 0; have hcz14_1 := bc BK218.out 1; have hfz14_0 := bf BK218.out 0; have hfz14_1 := bf BK218.out 1))
 refine bodyPost_ret (results_cell_row rfl _ _ gb218 94 #[.bool a0_0, .slice Ao12 t220.length co12] (0, 0) _ rfl (by (with_reducible repeat (first | refine blk_drewN ?_ _ | refine blk_drew ?_ | refine blk_alloc ?_ _)); refine blk_put (cs := #[.bool a0_0, .slice none 0 0]) ?_ 1 _ rfl; (with_reducible repeat (first | refine blk_drewN ?_ _ | refine blk_drew ?_ | refine blk_alloc ?_ _)); refine blk_put (cs := #[.bool false, .slice none 0 0]) ?_ 0 _ rfl; (with_reducible repeat (first | refine blk_drewN ?_ _ | refine blk_drew ?_ | refine blk_alloc ?_ _)); refine blk_far ?_ NB218_219.out _; (with_reducible repeat (first | refine blk_drewN ?_ _ | refine blk_drew ?_ | refine blk_alloc ?_ _)); exact BK218.out) Try.underlying94 rfl (by kernel_rfl)) rfl ?_
 exact ⟨_, eq_, by (with_reducible repeat (first | apply Kd.R_alloc | apply Kd.R_drewN | apply Kd.R_drew)); exact Kd.R_mono (Kd.R_far (p := ⟨gb218, 1, none⟩) (Kd.R_far (p := ⟨gb218, 0, none⟩) (Kd.R_far (p := ⟨gb219, 1, none⟩) (Kd.R_types (Kd.R_types HO222.out BK219.out (by decide)) BK218.out (by decide)) (fun _ hk => hk.1.2) (.slice Ao12 t220.length co12)) (fun _ hk => hk.2) (.bool a0_0)) (fun _ hk => hk.2) (.slice Ao12 t220.length co12)) (fun _ hk => trivial), bel3 GE217.out GE218.out GE219.out⟩
-- shrunk

/-! ### laws_toStateS: function 27 -/
def laws_toStateS.l0 : Nat → List (S90) → List (S94) → Int → Option ((List (S94)))
 | 0, _, _, _ => none
 | k + 1, x0, x3, x4 => if x4 < (x0.length : Int) then (if 0 ≤ x4 then ((laws_toState.f k ((rd_T90 x0 x4).f0) ((rd_T90 x0 x4).f1)).bind fun bt227 => (if x4 < (x3.length : Int) then (laws_toStateS.l0 k x0 (x3.set (x4 : Int).toNat (⟨bt227.1, bt227.2⟩ : S94)) (wrap64 (x4 + 1))) else (none))) else (none)) else (some x3)
def laws_toStateS.f (k : Nat) (l0 : List (S90)) : Option ((List (S94))) := if 0 ≤ (l0.length : Int) then (if l0.length ≤ 8796093022208 then (laws_toStateS.l0 k l0 (List.replicate l0.length z94) 0) else (none)) else (none)
theorem laws_toStateS.calls (k : Nat) (A0 : Option Addr) (c0 : Nat) (l0 : List (S90)) (r : List (S94)) (w : World) (hr0 : Kd.C k90 w A0 l0.length l0) (hc0 : l0.length ≤ c0) (h : laws_toStateS.f k l0 = some r) :
  Calls Try.prog 27 #[.slice A0 l0.length c0] w fun e w' => ∃ v0_ : Value, e = .returned (v0_) ∧ Kd.S k94 94 w' w.heap.size (fun _ => True) v0_ r ∧ Below w.heap.size w w' := by
 have hu90 := Try.underlying90; have hu94 := Try.underlying94; have HR0 := am hr0; have HC0 := am hc0; clear hr0 hc0; have HB := am (Below.refl w.heap.size w)
 have H : (if 0 ≤ (l0.length : Int) then (if l0.length ≤ 8796093022208 then (laws_toStateS.l0 k l0 (List.replicate l0.length z94) 0) else (none)) else (none)) = some r := h
 clear h
 replace H := ip H; obtain ⟨c2, H⟩ := H; have c2b0 := eq_true c2
 have c2b1 : decide (0 ≤ (l0.length : Int)) = true := decide_eq_true c2
 clear c2
 replace H := ip H; obtain ⟨c3, H⟩ := H; have c3b0 := eq_true c3
 have c3b1 : decide (l0.length ≤ 8796093022208) = true := decide_eq_true c3
 clear c3; obtain ⟨y223, hy223⟩ : ∃ y_ : List (S94), y_ = (List.replicate l0.length z94) := ⟨_, rfl⟩
 replace H : (laws_toStateS.l0 k l0 y223 0) = some r := by first | (rw [hy223]; with_reducible exact H) | (have H2_ := bm H; rw [hy223]; with_reducible exact H2_) | (with_reducible exact bm H) | with_reducible exact H | (rw [hy223]; exact H) | exact H
 have Ny223 := am hy223; clear hy223
 have H' := am H
 clear H; go_enter Try.func27, Try.ntmps27
 go_wp2_with (first | ((with_reducible refine gate_dst (N := 7) rfl ?_); refine Kd.S_make k94 _ 94 rfl (N := 7) rfl 43 _ _ rfl (l0.length : Int) rfl rfl Try.underlying43 (.agg #[(.bool false), (.slice none 0 0)]) 32 info94 rfl (by decide) (by omega) z94 (ok := fun _ => True) (okp := fun _ => True) (k94_mkM _ _ _ z94 (Kd.R_nil _ _ _ _ _)) (fun _ hk => hk) trivial (of_decide_eq_true ad) (Nat.le_trans (Nat.mul_le_mul_right _ (of_decide_eq_true ad : (l0.length : Int).toNat ≤ 8796093022208)) (by omega)) (Below.refl _ _) (Nat.le_refl _) ?_; intro v224 w4 ho5 hb hg_ hnew_; clear hg_ hnew_; (first | rw [← Ny223.out] at ho5 | (simp only [Int.reduceToNat] at ho5; rw [← Ny223.out] at ho5) | (simp only [Int.toNat_natCast] at ho5; rw [← Ny223.out] at ho5)); have HO225 := am (Kd.S_lower ho5 (below_size bel)); replace HB := am (below_step bel hb); clear hb ho5))
 go_loopg [4] k (fun kq v4 w' => ∃ (x3_1 : List (S94)) (x4_1 : Int), v4 = .int .i64 x4_1 ∧ Aside0 (laws_toStateS.l0 kq l0 x3_1 x4_1 = some r) ∧ Aside0 (kq ≤ k) ∧ Aside0 (Kd.S k94 94 w' w.heap.size (fun _ => True) v224 x3_1) ∧ Aside0 (Below w.heap.size w w'))
 case atStart => exact ⟨(y223), (0), sq, H', ⟨Nat.le_refl _⟩, ⟨by (with_reducible repeat (first | apply Kd.S_alloc | apply Kd.S_drewN | apply Kd.S_drew)); exact HO225.out⟩, ⟨bel⟩⟩
 case round =>
  clear H'; (try clear c2); (try clear c2b0); (try clear c2b1); (try clear p2); (try clear c3); (try clear c3b0); (try clear c3b1); obtain ⟨x3_1, x4_1, rfl, HA, HK1, HO_3, HB⟩ := hrel
  cases gk with
  | zero => exact absurd HA.out (by simp [laws_toStateS.l0])
  | succ k1 =>
   have H := HA.out; clear HA
   simp only [laws_toStateS.l0] at H
   by_cases c6 : x4_1 < (l0.length : Int)
   ·rw [if_pos c6] at H; have c6b0 := decide_eq_true c6; clear c6
    replace H := it H; obtain ⟨c7b0, H⟩ := H; replace H := bs H; obtain ⟨⟨t227, t228⟩, A80, H⟩ := H; replace H : (if x4_1 < (x3_1.length : Int) then (laws_toStateS.l0 k1 l0 (x3_1.set (x4_1 : Int).toNat (⟨t227, t228⟩ : S94)) (wrap64 (x4_1 + 1))) else (none)) = some r := H; have A8 := Aside0.mk A80; clear A80
    replace H := it H; obtain ⟨c9b0, H⟩ := H; obtain ⟨y231, hy231⟩ : ∃ y_ : List (S94), y_ = (x3_1.set (x4_1 : Int).toNat (⟨t227, t228⟩ : S94)) := ⟨_, rfl⟩
    replace H : (laws_toStateS.l0 k1 l0 y231 (wrap64 (x4_1 + 1))) = some r := by first | (rw [hy231]; with_reducible exact H) | (have H2_ := bm H; rw [hy231]; with_reducible exact H2_) | (with_reducible exact bm H) | with_reducible exact H | (rw [hy231]; exact H) | exact H
    have Ny231 := am hy231; clear hy231
    have H' := am H
    clear H
    have p226 : 0 ≤ (x4_1 : Int) := of_decide_eq_true ad
    have q226 : x4_1 < (l0.length : Int) := of_decide_eq_true ad
    obtain ⟨ad226, A226_1, c226_1, e226, hx226_0, hx226_1, hl226_1, hi226_1⟩ := at_T90 HR0.out x4_1 p226 q226
    cases e226
    replace hx226_0 := kp HB.out hx226_0; replace hx226_1 := kp HB.out hx226_1; have HR226_1 := am hi226_1; have HC226_1 := am hl226_1; clear hi226_1 hl226_1; replace p226 := eq_true p226; replace q226 := eq_true q226
    go_wp2_with (first | ((with_reducible refine gate_callee (f := 72) rfl ?_); refine goesL_ (some 20) rfl rfl Try.func72 (by kernel_rfl) rfl #[.agg #[.bool ((rd_T90 l0 x4_1).f0), .slice A226_1 ((rd_T90 l0 x4_1).f1).length c226_1]] rfl mq ?_; (with_reducible refine (laws_toState.calls k1 ((rd_T90 l0 x4_1).f0) _ _ ((rd_T90 l0 x4_1).f1) t227 t228 _ ?side1 ?side2 A8.out).mono ?_); (case side1 => exact cq (Kd.C_below HR226_1.out HB.out)); (case side2 => exact HC226_1.out); rintro e w11 ⟨v229, rfl, ho0, hb⟩; refine ⟨_, rfl, ?_⟩; replace HO_3 := am (Kd.S_elder' b24_ (Kd.R_base ho0) hb); have HO230 := am (Kd.R_lower ho0 (below_size bel)); replace HB := am (below_step bel hb); (try clear hb); (try clear hb2); (try clear hk); (try clear hi); (try clear ho0); have p10 : 0 ≤ (x4_1 : Int) := of_decide_eq_true ad; have q10 : (x4_1 : Int) < ((x3_1.length : Int) : Int) := of_decide_eq_true ad; obtain ⟨go10, co10, eo10, gb10, gl10, cl10, HG10⟩ := Kd.S_form HO_3.out (by omega); (first | cases eo10 | (injection eo10 with ea_ en_ ec_; (first | subst ea_ | (injection ea_ with ea_; subst ea_)); subst ec_; clear en_)); have GB10 := Aside0.mk gb10; have GG10 := am HG10; clear gb10 gl10 HG10; obtain ⟨_, ce10, hcl10, hM10, hcc10, hfr10, _, _⟩ := Kd.S_elem HO_3.out z94 (x4_1 : Int) p10 q10; obtain ⟨ve10_1, rfl, ge10_1⟩ := k94_openM hM10; have hx10_0 : w11.cell? ⟨go10, (x4_1 : Int).toNat * 2, none⟩ = some (.bool ((rd_T94 x3_1 x4_1).f0)) := hcc10 0 _ rfl; have hx10_1 : w11.cell? ⟨go10, (x4_1 : Int).toNat * 2 + 1, none⟩ = some (ve10_1) := hcc10 1 _ rfl; have hf10_0 : w11.frozen? ⟨go10, (x4_1 : Int).toNat * 2, none⟩ = false := hfr10 0; have hf10_1 : w11.frozen? ⟨go10, (x4_1 : Int).toNat * 2 + 1, none⟩ = false := hfr10 1; clear hcl10 hcc10 hfr10; (try clear hM10); replace p10 := eq_true p10; replace q10 := eq_true q10; have n_ := am (Kd.S_mono (ok' := (fun k_ => some k_ ≠ (v229 : Value).ownBlock)) HO_3.out (fun k_ hk => hk.2)); clear HO_3; have HO_3 := n_; clear n_; have HX12 := am (show Kd.S k94 94 w11 w.heap.size (fun k_ => ((fun _ => True)) k_ ∧ ¬ ((fun k_ => some k_ = (v229 : Value).ownBlock)) k_) (.slice (some ⟨go10, 0, none⟩) x3_1.length co10) x3_1 from (by (with_reducible repeat (first | apply Kd.S_alloc | apply Kd.S_drewN | apply Kd.S_drew)); exact Kd.S_mono HO_3.out (fun k_ hk => ⟨trivial, fun e_ => hk e_⟩))); obtain ⟨oki12, ce12, hcl12, hM12, hcc12, hfr12, hoki12, hH12⟩ := Kd.S_elem HX12.out z94 (x4_1 : Int) (of_decide_eq_true ad) b23_; obtain ⟨ve12_1, rfl, ge12_1⟩ := k94_openM hM12; have HP12 := Kd.S_seg hH12 (of_decide_eq_true ad) b23_ (seg := [.bool t227, v229]) (j := 0) (show 2 ≤ 2 from by decide) (x' := (⟨t227, t228⟩ : S94)) (k94_mkM _ _ _ (⟨t227, t228⟩ : S94) (Kd.R_mono (Kd.R_tight rfl (Kd.R_mono (ok' := fun k_ => ((fun _ => True)) k_ ∧ k_ ≠ go10) (Kd.R_apart' (HO230.out) (Kd.S_typed HO_3.out) (by decide)) (fun k_ hk => ⟨trivial, fun e_ => (hk.2) (by rw [e_]; rfl)⟩))) (fun _ h_ => Or.inr (h_)))) (fun _ hk => hk) (fun k_ hk_ => ((Kd.R_mono (ok' := fun k_ => ((fun _ => True)) k_ ∧ k_ ≠ go10) (Kd.R_apart' (HO230.out) (Kd.S_typed HO_3.out) (by decide)) (fun k_ hk => ⟨trivial, fun e_ => (hk.2) (by rw [e_]; rfl)⟩))).1 k_ hk_.symm); have hx12_0 := hcc12 0 _ rfl; (try simp only [show (k94).sz = 2 from rfl, Nat.mul_one, Nat.add_zero] at hx12_0); have hf12_0 := hfr12 0; (try simp only [show (k94).sz = 2 from rfl, Nat.mul_one, Nat.add_zero] at hf12_0); have hx12_1 := hcc12 1 _ rfl; (try simp only [show (k94).sz = 2 from rfl, Nat.mul_one, Nat.add_zero] at hx12_1); have hf12_1 := hfr12 1; (try simp only [show (k94).sz = 2 from rfl, Nat.mul_one, Nat.add_zero] at hf12_1); clear hcl12 hcc12 hfr12 hoki12 hH12; (try clear hM12)) | ((with_reducible refine gate_store (t := 94) (p := 21) rfl ?_); have hcs_ := (by obtain ⟨A_, c_, e_⟩ := Kd.R_slice HO230.out; rw [e_]; rfl : Value.cells v229 = #[v229]); unfold Value.cells at hcs_; have hst_ := (by obtain ⟨A_, c_, e_⟩ := Kd.R_slice HO230.out; intro a_ w_ m_; rw [e_]; exact run_store_slice _ _ _ _ _ _ _ : ∀ (a_ : Addr) (w_ : World) (m_ : Mode), (store a_ v229 m_).run Try.prog w_ = stored Try.prog w_ a_ v229 m_); refine store_event (t := 94) (p := 21) (v := ?vo_w13) (w1 := ((w11.setCell ⟨go10, (x4_1 : Int).toNat * 2, none⟩ (.bool t227)).setCell ⟨go10, (x4_1 : Int).toNat * 2 + 1, none⟩ (v229))) ?hg ?ho ?hn ?hr ?_; (case ho => rfl); (case hg => rfl); (case hn => rfl); (case hr => first | (go_simp; done) | (go_simp; rfl)); intro w13 hw; have hg : w11.grownBy w13 (some go10) := (by rw [hw]; exact HP12.2); have hp_ : Kd.S k94 94 w13 w.heap.size (fun _ => True) (.slice (some ⟨go10, 0, none⟩) x3_1.length co10) y231 := (by rw [hw, Ny231.out]; exact HP12.1); clear HP12; replace HO_3 := am (hp_); replace HB := am ((by rw [hw]; exact below_set (below_set (HB.out) GB10.out) GB10.out : Below w.heap.size w w13)); clear HO230; clear hg hw hp_))
    go_roundg k1
    case measure => have := HK1.out; omega
    case rel => exact ⟨(y231), (wrap64 (x4_1 + 1)), sq, H', ⟨b21_⟩, ⟨b24_⟩, ⟨bel⟩⟩
   rw [if_neg c6] at H; have c6b0 := decide_eq_false c6; clear c6; obtain rfl := Option.some.inj H; go_wp2; go_ret
   exact ⟨_, eq_, b24_, bel⟩

/-! ### impl_within: function 81 -/
def impl_within.f (a0 : Int) (a1 : Int) (a2 : Int) : Option (Bool) := if a0 ≥ a1 then (some (decide (a0 ≤ a2))) else (some false)
theorem impl_within.calls (a0 : Int) (a1 : Int) (a2 : Int) (r : Bool) (w : World) (h : impl_within.f a0 a1 a2 = some r) :
  Calls Try.prog 81 #[.int .i64 a0, .int .i64 a1, .int .i64 a2] w fun e w' => e = .returned (.bool r) ∧ Drawn0 w w' := by
 have H : (if a0 ≥ a1 then (some (decide (a0 ≤ a2))) else (some false)) = some r := h
 clear h
 by_cases c4 : a0 ≥ a1
 ·rw [if_pos c4] at H; have c4b0 := decide_eq_true c4; clear c4; obtain rfl := Option.some.inj H; go_enter Try.func81, Try.ntmps81; go_wp2; go_ret
  exact ⟨sq, dr⟩
 rw [if_neg c4] at H; have c4b0 := decide_eq_false c4; clear c4; obtain rfl := Option.some.inj H; go_enter Try.func81, Try.ntmps81; go_wp2; go_ret
 exact ⟨sq, dr⟩
end Go.Proofs.Ytfpmfaelodfecaa.QFnExactMachineGuesses
