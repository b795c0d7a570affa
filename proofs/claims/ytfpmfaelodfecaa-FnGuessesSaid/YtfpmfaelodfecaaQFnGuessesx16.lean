import Derived.Test.YtfpmfaelodfecaaQFnGuessesx0
import Derived.Test.YtfpmfaelodfecaaQFnGuessesx13
import Derived.Test.YtfpmfaelodfecaaVMSh2
import Derived.Test.YtfpmfaelodfecaaQFnGuessesx8
import Derived.Test.YtfpmfaelodfecaaQFnGuessesx10
namespace Go.Proofs.Ytfpmfaelodfecaa.QFnGuesses
open Go.RowKit Go.Proofs.YtfpmfaelodfecaaW.PrintWords Go.Proofs.YtfpmfaelodfecaaW.PrintLast Go.Proofs.YtfpmfaelodfecaaW.PrintMore Go.Proofs.Ytfpmfaelodfecaa.Sh
attribute [local go_sem] max2_int min2_int max_two min_two max_three min_three max_four min_four
set_option linter.unusedVariables false
set_option linter.unusedSimpArgs false
set_option maxHeartbeats 8000000
set_option maxRecDepth 100000
-- shrunk

/-! ### spec_l1Near: function 70 -/
mutual
def spec_l1Near.l0 : Nat → ByteArray → List ByteArray → Int → Option (List ByteArray)
 | 0, _, _, _ => none
 | k + 1, x0, x3, x4 => if x4 ≤ (x0.size : Int) then (spec_l1Near.l1 k x0 x3 x4 97) else (some x3)
def spec_l1Near.l1 : Nat → ByteArray → List ByteArray → Int → Int → Option (List ByteArray)
 | 0, _, _, _, _ => none
 | k + 1, x0, x3, x4, x5 => if x5 ≤ 122 then (if 0 ≤ x4 then (if x4 ≤ (x0.size : Int) then ((some (([(x5) % 256] : List Int) : List Int)).bind fun y450 => (if (x0.extract 0 (x4 : Int).toNat).size + (strOfNums y450).size ≤ 9223372036854775807 then (if ((x0.extract 0 (x4 : Int).toNat) ++ (strOfNums y450)).size + (x0.extract (x4 : Int).toNat x0.size).size ≤ 9223372036854775807 then ((spec_l1Step.f k x3 x0 (((x0.extract 0 (x4 : Int).toNat) ++ (strOfNums y450)) ++ (x0.extract (x4 : Int).toNat x0.size))).bind fun t453 => (if x4 < (x0.size : Int) then ((some (([(x5) % 256] : List Int) : List Int)).bind fun y456 => (if (x0.extract 0 (x4 : Int).toNat).size + (strOfNums y456).size ≤ 9223372036854775807 then (if 0 ≤ (wrap64 (x4 + 1)) then (if (wrap64 (x4 + 1)) ≤ (x0.size : Int) then (if ((x0.extract 0 (x4 : Int).toNat) ++ (strOfNums y456)).size + (x0.extract ((wrap64 (x4 + 1)) : Int).toNat x0.size).size ≤ 9223372036854775807 then ((spec_l1Step.f k t453 x0 (((x0.extract 0 (x4 : Int).toNat) ++ (strOfNums y456)) ++ (x0.extract ((wrap64 (x4 + 1)) : Int).toNat x0.size))).bind fun t459 => (spec_l1Near.l1 k x0 t459 x4 (wrap32 (x5 + 1)))) else (none)) else (none)) else (none)) else (none))) else (spec_l1Near.l1 k x0 t453 x4 (wrap32 (x5 + 1))))) else (none)) else (none))) else (none)) else (none)) else (if x4 < (x0.size : Int) then (if 0 ≤ x4 then (if x4 ≤ (x0.size : Int) then (if 0 ≤ (wrap64 (x4 + 1)) then (if (wrap64 (x4 + 1)) ≤ (x0.size : Int) then (if (x0.extract 0 (x4 : Int).toNat).size + (x0.extract ((wrap64 (x4 + 1)) : Int).toNat x0.size).size ≤ 9223372036854775807 then ((spec_l1Step.f k x3 x0 ((x0.extract 0 (x4 : Int).toNat) ++ (x0.extract ((wrap64 (x4 + 1)) : Int).toNat x0.size))).bind fun t462 => (spec_l1Near.j2 k x0 t462 x4)) else (none)) else (none)) else (none)) else (none)) else (none)) else (spec_l1Near.j2 k x0 x3 x4))
def spec_l1Near.j2 : Nat → ByteArray → List ByteArray → Int → Option (List ByteArray)
 | 0, _, _, _ => none
 | k + 1, x0, x3, x4 => if (wrap64 (x4 + 1)) < (x0.size : Int) then (if 0 ≤ x4 then (if x4 ≤ (x0.size : Int) then (if 0 ≤ (wrap64 (x4 + 1)) then (if (wrap64 (x4 + 1)) ≤ (wrap64 (x4 + 2)) then (if (wrap64 (x4 + 2)) ≤ (x0.size : Int) then (if (x0.extract 0 (x4 : Int).toNat).size + (x0.extract ((wrap64 (x4 + 1)) : Int).toNat ((wrap64 (x4 + 2)) : Int).toNat).size ≤ 9223372036854775807 then (if x4 ≤ (wrap64 (x4 + 1)) then (if (wrap64 (x4 + 1)) ≤ (x0.size : Int) then (if ((x0.extract 0 (x4 : Int).toNat) ++ (x0.extract ((wrap64 (x4 + 1)) : Int).toNat ((wrap64 (x4 + 2)) : Int).toNat)).size + (x0.extract (x4 : Int).toNat ((wrap64 (x4 + 1)) : Int).toNat).size ≤ 9223372036854775807 then (if 0 ≤ (wrap64 (x4 + 2)) then (if (((x0.extract 0 (x4 : Int).toNat) ++ (x0.extract ((wrap64 (x4 + 1)) : Int).toNat ((wrap64 (x4 + 2)) : Int).toNat)) ++ (x0.extract (x4 : Int).toNat ((wrap64 (x4 + 1)) : Int).toNat)).size + (x0.extract ((wrap64 (x4 + 2)) : Int).toNat x0.size).size ≤ 9223372036854775807 then ((spec_l1Step.f k x3 x0 ((((x0.extract 0 (x4 : Int).toNat) ++ (x0.extract ((wrap64 (x4 + 1)) : Int).toNat ((wrap64 (x4 + 2)) : Int).toNat)) ++ (x0.extract (x4 : Int).toNat ((wrap64 (x4 + 1)) : Int).toNat)) ++ (x0.extract ((wrap64 (x4 + 2)) : Int).toNat x0.size))).bind fun t465 => (spec_l1Near.l0 k x0 t465 (wrap64 (x4 + 1)))) else (none)) else (none)) else (none)) else (none)) else (none)) else (none)) else (none)) else (none)) else (none)) else (none)) else (none)) else (spec_l1Near.l0 k x0 x3 (wrap64 (x4 + 1)))
end
def spec_l1Near.f (k : Nat) (a0 : ByteArray) : Option (List ByteArray) := spec_l1Near.l0 k a0 (([] : List ByteArray)) 0
def spec_l1Near.T8 : Bool × List (List Nat × List Nat) := (true, [([], []), ([], []), ([], []), ([], []), ([2, 3], [2, 3]), ([], []), ([5], [5]), ([6], [6]), ([7], [7]), ([4, 8], [4, 8]), ([], []), ([], []), ([10, 11], [10, 11]), ([9, 12], [9, 12]), ([0, 1, 13], [0, 1, 13]), ([14, 14, 0, 1, 2, 3, 4, 5, 6, 7, 8, 9, 10, 11, 12, 13, 14], [0, 14])])
def spec_l1Near.B8 : List Nat := [0, 0, 0, 0, 12, 0, 32, 96, 224, 508, 0, 0, 3072, 8188, 16383, 32767]
theorem spec_l1Near.tab8 : rtab .any (opsOf Try.f70 8) = spec_l1Near.T8 := by kernel_rfl
theorem spec_l1Near.bits8 : waitsOk spec_l1Near.T8.2 spec_l1Near.B8 = true := by kernel_rfl
def spec_l1Near.T10 : Bool × List (List Nat × List Nat) := (true, [([], []), ([], []), ([], []), ([], []), ([2, 3], [2, 3]), ([], []), ([5], [5]), ([6], [6]), ([7], [7]), ([4, 8], [4, 8]), ([], []), ([], []), ([11], [11]), ([10, 12], [10, 12]), ([9, 13], [9, 13]), ([0, 1, 14], [0, 1, 14]), ([15, 15, 0, 1, 2, 3, 4, 5, 6, 7, 8, 9, 10, 11, 12, 13, 14, 15], [0, 15])])
def spec_l1Near.B10 : List Nat := [0, 0, 0, 0, 12, 0, 32, 96, 224, 508, 0, 0, 2048, 7168, 16380, 32767, 65535]
theorem spec_l1Near.tab10 : rtab .any (opsOf Try.f70 10) = spec_l1Near.T10 := by kernel_rfl
theorem spec_l1Near.bits10 : waitsOk spec_l1Near.T10.2 spec_l1Near.B10 = true := by kernel_rfl
def spec_l1Near.T12 : Bool × List (List Nat × List Nat) := (true, [([], []), ([], []), ([], []), ([], []), ([2, 3], [2, 3]), ([], []), ([], []), ([6], [6]), ([5, 7], [5, 7]), ([4, 8], [4, 8]), ([0, 1, 9], [0, 1, 9]), ([10, 10, 0, 1, 2, 3, 4, 5, 6, 7, 8, 9, 10], [0, 10])])
def spec_l1Near.B12 : List Nat := [0, 0, 0, 0, 12, 0, 0, 64, 224, 508, 1023, 2047]
theorem spec_l1Near.tab12 : rtab .any (opsOf Try.f70 12) = spec_l1Near.T12 := by kernel_rfl
theorem spec_l1Near.bits12 : waitsOk spec_l1Near.T12.2 spec_l1Near.B12 = true := by kernel_rfl
def spec_l1Near.T14 : Bool × List (List Nat × List Nat) := (true, [([], []), ([], []), ([], []), ([], []), ([2, 3], [2, 3]), ([], []), ([], []), ([6], [6]), ([], []), ([8], [8]), ([5, 7, 9], [5, 7, 9]), ([4, 10], [4, 10]), ([], []), ([], []), ([], []), ([14], [14]), ([12, 13, 15], [12, 13, 15]), ([11, 16], [11, 16]), ([], []), ([], []), ([19], [19]), ([18, 20], [18, 20]), ([17, 21], [17, 21]), ([0, 1, 22], [0, 1, 22]), ([23, 23, 0, 1, 2, 3, 4, 5, 6, 7, 8, 9, 10, 11, 12, 13, 14, 15, 16, 17, 18, 19, 20, 21, 22, 23], [0, 23])])
def spec_l1Near.B14 : List Nat := [0, 0, 0, 0, 12, 0, 0, 64, 0, 256, 992, 2044, 0, 0, 0, 16384, 61440, 131068, 0, 0, 524288, 1835008, 4194300, 8388607, 16777215]
theorem spec_l1Near.tab14 : rtab .any (opsOf Try.f70 14) = spec_l1Near.T14 := by kernel_rfl
theorem spec_l1Near.bits14 : waitsOk spec_l1Near.T14.2 spec_l1Near.B14 = true := by kernel_rfl
theorem spec_l1Near.calls (k : Nat) (a0 : ByteArray) (r : List ByteArray) (w : World) (h : spec_l1Near.f k a0 = some r) :
  Calls Try.prog 70 #[.string a0] w fun e w' => ∃ v0_ : Value, e = .returned (v0_) ∧ Kd.R Kd.string 9 w' w.heap.size (fun _ => True) v0_ r ∧ Below w.heap.size w w' := by
 have HB := am (Below.refl w.heap.size w)
 have H : (spec_l1Near.l0 k a0 (([] : List ByteArray)) 0) = some r := h
 clear h; obtain ⟨y447, hy447⟩ : ∃ y_ : List ByteArray, y_ = (([] : List ByteArray)) := ⟨_, rfl⟩
 replace H : (spec_l1Near.l0 k a0 y447 0) = some r := by first | (rw [hy447]; with_reducible exact H) | (have H2_ := bm H; rw [hy447]; with_reducible exact H2_) | (with_reducible exact bm H) | with_reducible exact H | (rw [hy447]; exact H) | exact H
 have Ny447 := am hy447; clear hy447
 have H' := am H
 clear H; go_enter Try.func70, Try.ntmps70
 go_wp2_with (first | ((with_reducible refine gate_dst (N := 6) rfl ?_); refine Kd.R_lit Kd.string _ 9 ?hg (N := 6) ?hd (xs := ([] : List ByteArray)) (inner := []) (ok := fun _ => True) (okp := fun _ => True) ?hr ?hp (fun _ hk => hk) trivial (Below.refl _ _) (Nat.le_refl _) (by simp) ?_; (case hd => rfl); (case hg => rfl); (case hr => first | (go_simp; done) | (go_simp; rfl)); (case hp => exact (Reps.none _ _)); intro v448 w2 ho3 hb hg_ hnew_; clear hg_ hnew_; (first | rw [← Ny447.out] at ho3 | (simp only [Int.reduceToNat] at ho3; rw [← Ny447.out] at ho3) | (simp only [Int.toNat_natCast] at ho3; rw [← Ny447.out] at ho3)); have HO449 := am (Kd.R_lower ho3 (below_size bel)); replace HB := am (below_step bel hb); clear hb ho3))
 go_loopg [3, 4] k (fun kq v3 v4 w' => ∃ (x3_1 : List ByteArray) (x4_1 : Int), v4 = .int .i64 x4_1 ∧ Aside0 (spec_l1Near.l0 kq a0 x3_1 x4_1 = some r) ∧ Aside0 (kq ≤ k) ∧ Aside0 (Kd.R Kd.string 9 w' w.heap.size (fun _ => True) v3 x3_1) ∧ Aside0 (Below w.heap.size w w'))
 case atStart => exact ⟨(y447), (0), sq, H', ⟨Nat.le_refl _⟩, ⟨rq HO449.out⟩, ⟨bel⟩⟩
 case round =>
  clear H'; (try clear p2); obtain ⟨x3_1, x4_1, rfl, HA, HK1, HO_3, HB⟩ := hrel
  cases gk with
  | zero => exact absurd HA.out (by simp [spec_l1Near.l0])
  | succ k1 =>
   have H := HA.out; clear HA
   simp only [spec_l1Near.l0] at H
   by_cases c4 : x4_1 ≤ (a0.size : Int)
   ·rw [if_pos c4] at H; have c4b0 := decide_eq_true c4; clear c4
    have H' := am H
    clear H; go_wp2
    go_loopg [3, 5] k1 (fun kq v3 v5 w' => ∃ (x3_2 : List ByteArray) (x5_2 : Int), v5 = .int .i32 x5_2 ∧ Aside0 (spec_l1Near.l1 kq a0 x3_2 x4_1 x5_2 = some r) ∧ Aside0 (kq ≤ k1) ∧ Aside0 (Kd.R Kd.string 9 w' w.heap.size (fun _ => True) v3 x3_2) ∧ Aside0 (Below w.heap.size w w'))
    case atStart => exact ⟨(x3_1), (97), sq, H', ⟨Nat.le_refl _⟩, ⟨rq HO_3.out⟩, ⟨bel⟩⟩
    case round =>
     clear H'; (try clear p2); (try clear c4); (try clear c4b0); (try clear p2); obtain ⟨x3_2, x5_2, rfl, HA, HK2, HO_3, HB⟩ := hrel
     cases gk with
     | zero => exact absurd HA.out (by simp [spec_l1Near.l1])
     | succ k2 =>
      have H := HA.out; clear HA
      simp only [spec_l1Near.l1] at H
      by_cases c5 : x5_2 ≤ 122
      ·rw [if_pos c5] at H; have c5b0 := decide_eq_true c5; clear c5
       replace H := ip H; obtain ⟨c6, H⟩ := H; have c6b0 := eq_true c6
       have c6b1 : decide (0 ≤ x4_1) = true := decide_eq_true c6
       clear c6
       replace H := ip H; obtain ⟨c7, H⟩ := H; have c7b0 := eq_true c7
       have c7b1 : decide (x4_1 ≤ (a0.size : Int)) = true := decide_eq_true c7
       clear c7; obtain ⟨y450, hy450⟩ : ∃ y_ : List Int, y_ = (([(x5_2) % 256] : List Int)) := ⟨_, rfl⟩
       replace H : (if (a0.extract 0 (x4_1 : Int).toNat).size + (strOfNums y450).size ≤ 9223372036854775807 then (if ((a0.extract 0 (x4_1 : Int).toNat) ++ (strOfNums y450)).size + (a0.extract (x4_1 : Int).toNat a0.size).size ≤ 9223372036854775807 then ((spec_l1Step.f k2 x3_2 a0 (((a0.extract 0 (x4_1 : Int).toNat) ++ (strOfNums y450)) ++ (a0.extract (x4_1 : Int).toNat a0.size))).bind fun t453 => (if x4_1 < (a0.size : Int) then ((some (([(x5_2) % 256] : List Int) : List Int)).bind fun y456 => (if (a0.extract 0 (x4_1 : Int).toNat).size + (strOfNums y456).size ≤ 9223372036854775807 then (if 0 ≤ (wrap64 (x4_1 + 1)) then (if (wrap64 (x4_1 + 1)) ≤ (a0.size : Int) then (if ((a0.extract 0 (x4_1 : Int).toNat) ++ (strOfNums y456)).size + (a0.extract ((wrap64 (x4_1 + 1)) : Int).toNat a0.size).size ≤ 9223372036854775807 then ((spec_l1Step.f k2 t453 a0 (((a0.extract 0 (x4_1 : Int).toNat) ++ (strOfNums y456)) ++ (a0.extract ((wrap64 (x4_1 + 1)) : Int).toNat a0.size))).bind fun t459 => (spec_l1Near.l1 k2 a0 t459 x4_1 (wrap32 (x5_2 + 1)))) else (none)) else (none)) else (none)) else (none))) else (spec_l1Near.l1 k2 a0 t453 x4_1 (wrap32 (x5_2 + 1))))) else (none)) else (none)) = some r := by first | (rw [hy450]; with_reducible exact H) | (have H2_ := bm H; rw [hy450]; with_reducible exact H2_) | (with_reducible exact bm H) | with_reducible exact H | (rw [hy450]; exact H) | exact H
       have Ny450 := am hy450; clear hy450
       replace H := ip H; obtain ⟨c8, H⟩ := H; have c8b0 := eq_true c8; have c8b5 := c8
       try simp at c8b5
       try have c8b4 := eq_false (Nat.not_lt.2 c8b5)
       try have c8b3 : (9223372036854775807 < (x4_1 : Int).toNat + (strOfNums y450).size) = False := by
             have h_ := c8
             simp only [ByteArray.size_append, ByteArray.size_extract] at h_
             have g0_ : (x4_1) ≤ (a0.size : Int) := of_decide_eq_true ad
             exact eq_false (by omega)
       have c8b1 : decide ((a0.extract 0 (x4_1 : Int).toNat).size + (strOfNums y450).size ≤ 9223372036854775807) = true := decide_eq_true c8
       try have c8b2 : (9223372036854775807 < (a0.extract 0 (x4_1 : Int).toNat).size + (strOfNums y450).size) = False := eq_false (Nat.not_lt.2 c8)
       have c9b0 := eq_true (of_decide_eq_true ad : 0 ≤ x4_1); have c10b0 := eq_true (of_decide_eq_true ad : x4_1 ≤ (a0.size : Int))
       replace H := ip H; obtain ⟨c11, H⟩ := H; have c11b0 := eq_true c11; have c11b5 := c11
       try simp at c11b5
       try have c11b4 := eq_false (Nat.not_lt.2 c11b5)
       try have c11b3 : (9223372036854775807 < (x4_1 : Int).toNat + (strOfNums y450).size + (a0.size - (x4_1 : Int).toNat)) = False := by
             have h_ := c11
             simp only [ByteArray.size_append, ByteArray.size_extract] at h_
             have g0_ : (x4_1) ≤ (a0.size : Int) := of_decide_eq_true ad
             exact eq_false (by omega)
       have c11b1 : decide (((a0.extract 0 (x4_1 : Int).toNat) ++ (strOfNums y450)).size + (a0.extract (x4_1 : Int).toNat a0.size).size ≤ 9223372036854775807) = true := decide_eq_true c11
       try have c11b2 : (9223372036854775807 < ((a0.extract 0 (x4_1 : Int).toNat) ++ (strOfNums y450)).size + (a0.extract (x4_1 : Int).toNat a0.size).size) = False := eq_false (Nat.not_lt.2 c11)
       replace H := bs H; obtain ⟨t453, A120, H⟩ := H; replace H : (if x4_1 < (a0.size : Int) then ((some (([(x5_2) % 256] : List Int) : List Int)).bind fun y456 => (if (a0.extract 0 (x4_1 : Int).toNat).size + (strOfNums y456).size ≤ 9223372036854775807 then (if 0 ≤ (wrap64 (x4_1 + 1)) then (if (wrap64 (x4_1 + 1)) ≤ (a0.size : Int) then (if ((a0.extract 0 (x4_1 : Int).toNat) ++ (strOfNums y456)).size + (a0.extract ((wrap64 (x4_1 + 1)) : Int).toNat a0.size).size ≤ 9223372036854775807 then ((spec_l1Step.f k2 t453 a0 (((a0.extract 0 (x4_1 : Int).toNat) ++ (strOfNums y456)) ++ (a0.extract ((wrap64 (x4_1 + 1)) : Int).toNat a0.size))).bind fun t459 => (spec_l1Near.l1 k2 a0 t459 x4_1 (wrap32 (x5_2 + 1)))) else (none)) else (none)) else (none)) else (none))) else (spec_l1Near.l1 k2 a0 t453 x4_1 (wrap32 (x5_2 + 1)))) = some r := H; have A12 := Aside0.mk A120; clear A120
       by_cases c13 : x4_1 < (a0.size : Int)
       ·rw [if_pos c13] at H; have c13b0 := decide_eq_true c13; clear c13; have c14b0 := eq_true (of_decide_eq_true ad : 0 ≤ x4_1); have c15b0 := eq_true (of_decide_eq_true ad : x4_1 ≤ (a0.size : Int)); obtain ⟨y456, hy456⟩ : ∃ y_ : List Int, y_ = (([(x5_2) % 256] : List Int)) := ⟨_, rfl⟩
        replace H : (if (a0.extract 0 (x4_1 : Int).toNat).size + (strOfNums y456).size ≤ 9223372036854775807 then (if 0 ≤ (wrap64 (x4_1 + 1)) then (if (wrap64 (x4_1 + 1)) ≤ (a0.size : Int) then (if ((a0.extract 0 (x4_1 : Int).toNat) ++ (strOfNums y456)).size + (a0.extract ((wrap64 (x4_1 + 1)) : Int).toNat a0.size).size ≤ 9223372036854775807 then ((spec_l1Step.f k2 t453 a0 (((a0.extract 0 (x4_1 : Int).toNat) ++ (strOfNums y456)) ++ (a0.extract ((wrap64 (x4_1 + 1)) : Int).toNat a0.size))).bind fun t459 => (spec_l1Near.l1 k2 a0 t459 x4_1 (wrap32 (x5_2 + 1)))) else (none)) else (none)) else (none)) else (none)) = some r := by first | (rw [hy456]; with_reducible exact H) | (have H2_ := bm H; rw [hy456]; with_reducible exact H2_) | (with_reducible exact bm H) | with_reducible exact H | (rw [hy456]; exact H) | exact H
        have Ny456 := am hy456; clear hy456
        replace H := ip H; obtain ⟨c16, H⟩ := H; have c16b0 := eq_true c16; have c16b5 := c16
        try simp at c16b5
        try have c16b4 := eq_false (Nat.not_lt.2 c16b5)
        try have c16b3 : (9223372036854775807 < (x4_1 : Int).toNat + (strOfNums y456).size) = False := by
              have h_ := c16
              simp only [ByteArray.size_append, ByteArray.size_extract] at h_
              have g0_ : (x4_1) ≤ (a0.size : Int) := of_decide_eq_true ad
              exact eq_false (by omega)
        have c16b1 : decide ((a0.extract 0 (x4_1 : Int).toNat).size + (strOfNums y456).size ≤ 9223372036854775807) = true := decide_eq_true c16
        try have c16b2 : (9223372036854775807 < (a0.extract 0 (x4_1 : Int).toNat).size + (strOfNums y456).size) = False := eq_false (Nat.not_lt.2 c16)
        obtain ⟨ji17, hji17⟩ : ∃ j_ : Int, (wrap64 (x4_1 + 1)) = j_ := ⟨_, rfl⟩
        replace H : (if 0 ≤ (ji17) then (if (ji17) ≤ (a0.size : Int) then (if ((a0.extract 0 (x4_1 : Int).toNat) ++ (strOfNums y456)).size + (a0.extract ((ji17) : Int).toNat a0.size).size ≤ 9223372036854775807 then ((spec_l1Step.f k2 t453 a0 (((a0.extract 0 (x4_1 : Int).toNat) ++ (strOfNums y456)) ++ (a0.extract ((ji17) : Int).toNat a0.size))).bind fun t459 => (spec_l1Near.l1 k2 a0 t459 x4_1 (wrap32 (x5_2 + 1)))) else (none)) else (none)) else (none)) = some r := by first | (rw [hji17] at H; exact H) | (simp only [hji17] at H ⊢; exact H)
        (try rw [hji17] at A12)
        have hji17w : (IntKind.i64.wrap (x4_1 + 1)) = ji17 := (i64_w _).trans hji17
        replace H := ip H; obtain ⟨c18, H⟩ := H; have c18b0 := eq_true c18
        have c18b1 : decide (0 ≤ (ji17)) = true := decide_eq_true c18
        clear c18
        replace H := ip H; obtain ⟨c19, H⟩ := H; have c19b0 := eq_true c19
        have c19b1 : decide ((ji17) ≤ (a0.size : Int)) = true := decide_eq_true c19
        clear c19
        replace H := ip H; obtain ⟨c20, H⟩ := H; have c20b0 := eq_true c20; have c20b5 := c20
        try simp at c20b5
        try have c20b4 := eq_false (Nat.not_lt.2 c20b5)
        try have c20b3 : (9223372036854775807 < (x4_1 : Int).toNat + (strOfNums y456).size + (a0.size - ((ji17) : Int).toNat)) = False := by
              have h_ := c20
              simp only [ByteArray.size_append, ByteArray.size_extract] at h_
              have g0_ : (x4_1) ≤ (a0.size : Int) := of_decide_eq_true ad
              exact eq_false (by omega)
        have c20b1 : decide (((a0.extract 0 (x4_1 : Int).toNat) ++ (strOfNums y456)).size + (a0.extract ((ji17) : Int).toNat a0.size).size ≤ 9223372036854775807) = true := decide_eq_true c20
        try have c20b2 : (9223372036854775807 < ((a0.extract 0 (x4_1 : Int).toNat) ++ (strOfNums y456)).size + (a0.extract ((ji17) : Int).toNat a0.size).size) = False := eq_false (Nat.not_lt.2 c20)
        replace H := bs H; obtain ⟨t459, A210, H⟩ := H; replace H : (spec_l1Near.l1 k2 a0 t459 x4_1 (wrap32 (x5_2 + 1))) = some r := H; have A21 := Aside0.mk A210; clear A210
        have H' := am H
        clear H
        try go_wp2
        replace HO_3 := am (Kd.R_drew HO_3.out); replace HB := am (below_drew1 HB.out)
        refine st (n := 16) (S := fun w' => True) (ds := []) trivial (fun hHeld => ?_); refine with_tabW spec_l1Near.tab8 spec_l1Near.bits8 (fun HT_ HW_ => ?_)
        generalize wr.drew = w22 at HO_3 HB hHeld ⊢
        refine pu 0 17 ?_
        refine pu 1 18 ?_
        refine pu 2 19 ?_
        refine pu 3 20 ?_
        refine pu 4 21 ?_
        refine pu 5 22 ?_
        refine pu 6 23 ?_
        refine pu 10 27 ?_
        refine pu 11 28 ?_
        refine pu 12 29 ?_
        refine on1 7 24 (fun K hK => ?_)
        refine Kd.R_lit_step (Kd.int .u8) _ 5 ?hg (N := 24) ?hd (xs := ([(x5_2) % 256] : List Int)) (inner := [.int .u8 ((x5_2) % 256)]) (ok := fun _ => True) (okp := fun _ => True) ?hr ?hp (fun _ hk => hk) trivial (Below.refl _ _) (Nat.le_refl _) (by simp) ?_; (case hd => rfl); (case hg => rfl); (case hr => first | (go_simp; done) | (go_simp; rfl)); (case hp => exact (Reps.one (show Kd.M (Kd.int .u8) _ _ _ ((x5_2) % 256) [.int .u8 ((x5_2) % 256)] from rfl) (Reps.none _ _)))
        intro v451 w23 ho24 hb hg_ hnew_; clear hg_ hnew_
        (first | rw [← Ny450.out] at ho24 | (simp only [Int.reduceToNat] at ho24; rw [← Ny450.out] at ho24) | (simp only [Int.toNat_natCast] at ho24; rw [← Ny450.out] at ho24))
        replace HO_3 := am (Kd.R_below (rq HO_3.out) hb); have HO452 := am (Kd.R_lower ho24 (below_size bel)); replace HB := am (below_step bel hb); clear hb ho24; obtain ⟨Ao26, co26, eo26⟩ := Kd.R_slice HO_3.out
        (first | subst eo26 | (injection eo26 with f1_ f2_ f3_; have f4_ := f1_.symm; have f5_ := f3_.symm; clear f1_ f2_ f3_; subst f4_; subst f5_))
        refine hK.out _ _ trivial (fun hHeld => ?_)
        clear hK K
        refine norm_ (a' := ?_) ?_ ?_
        rotate_left
        ·show Act.put _ (some 24) _ = _
         simp only [Act.put, List.setIfInBounds_toArray, List.set_cons_zero, List.set_cons_succ, i64_w, i32_w]
         rfl
        refine on1 8 25 (fun K hK => ?_)
        have hcv25 := own_string (P := Try.prog) Try.underlying31 Try.underlying5 Try.underlying9 (Kd.own_of_R HO452.out)
        refine value_ (w1 := ?_) (v := ?_) (by rfl) rfl ?_ ?_
        rotate_left 2
        ·go_simp
         constructor
         ·rfl
         ·rfl
        clear hcv25
        refine hK.out _ _ trivial (fun hHeld => ?_)
        clear hK K
        refine norm_ (a' := ?_) ?_ ?_
        rotate_left
        ·show Act.put _ (some 25) _ = _
         simp only [Act.put, List.setIfInBounds_toArray, List.set_cons_zero, List.set_cons_succ, i64_w, i32_w]
         rfl
        refine pu 9 26 ?_
        refine pu 13 30 ?_
        refine on1 14 31 (fun K hK => ?_)
        refine goes_ Try.func113 (by kernel_rfl) rfl #[.slice Ao26 x3_2.length co26, .string a0, .string (((a0.extract 0 (x4_1 : Int).toNat) ++ (strOfNums y450)) ++ (a0.extract (x4_1 : Int).toNat a0.size))] (by rfl) rfl rfl mq ?_
        with_reducible refine (spec_l1Step.calls k2 (fun k_ => some k_ = (.slice Ao26 x3_2.length co26 : Value).ownBlock) (.slice Ao26 x3_2.length co26) x3_2 a0 (((a0.extract 0 (x4_1 : Int).toNat) ++ (strOfNums y450)) ++ (a0.extract (x4_1 : Int).toNat a0.size)) t453 w _ ?side1 ?side2 A12.out).mono ?_
        (case side1 => repeat (first | (with_reducible first | exact HB.out | apply below_alloc | apply pw_below_drewN | apply below_drew1) | exact HB.out)); (case side2 => exact Kd.R_tight rfl HO_3.out)
        rintro e w27 ⟨v454, rfl, ho0, hb, hkp⟩
        refine ⟨_, rfl, ?_⟩
        replace HO452 := am (Kd.R_mono (ok' := fun k_ => True) (Kd.R_keptB ((Kd.R_apart' HO452.out (Kd.R_typed HO_3.out) (by decide))) hkp (fun k_ hk_ hs_ => (hk_.2) hs_)) (fun k_ hk_ => trivial))
        have HO455 := am (Kd.R_mono (ok' := fun k_ => True) ho0 (fun k_ hk_ => trivial)); replace HB := am (hb); clear HO_3
        (try clear hb)
        (try clear hkp)
        (try clear ho0)
        refine hK.out _ _ trivial (fun hHeld => ?_)
        clear hK K
        refine norm_ (a' := ?_) ?_ ?_
        rotate_left
        ·show Act.put _ (some 31) _ = _
         simp only [Act.put, List.setIfInBounds_toArray, List.set_cons_zero, List.set_cons_succ, i64_w, i32_w]
         rfl
        refine pu 15 3 ?_
        refine done_ (done_of HT_.out (by kernel_rfl)) ?_
        try go_wp2
        replace HO452 := am (Kd.R_drew HO452.out); replace HO455 := am (Kd.R_drew HO455.out); replace HB := am (below_drew1 HB.out)
        refine st (n := 17) (S := fun w' => True) (ds := []) trivial (fun hHeld => ?_); refine with_tabW spec_l1Near.tab10 spec_l1Near.bits10 (fun HT_ HW_ => ?_)
        generalize w27.drew = w28 at HO452 HO455 HB hHeld ⊢
        refine pu 0 36 ?_
        refine pu 1 37 ?_
        refine pu 2 38 ?_
        refine pu 3 39 ?_
        refine pu 4 40 ?_
        refine pu 5 41 ?_
        refine pu 6 42 ?_
        refine pu 10 46 ?_
        refine pu 11 47 ?_
        refine pu 12 48 ?_
        refine pu 13 49 ?_
        refine on1 7 43 (fun K hK => ?_)
        refine Kd.R_lit_step (Kd.int .u8) _ 5 ?hg (N := 43) ?hd (xs := ([(x5_2) % 256] : List Int)) (inner := [.int .u8 ((x5_2) % 256)]) (ok := fun _ => True) (okp := fun _ => True) ?hr ?hp (fun _ hk => hk) trivial (Below.refl _ _) (Nat.le_refl _) (by simp) ?_; (case hd => rfl); (case hg => rfl); (case hr => first | (go_simp; done) | (go_simp; rfl)); (case hp => exact (Reps.one (show Kd.M (Kd.int .u8) _ _ _ ((x5_2) % 256) [.int .u8 ((x5_2) % 256)] from rfl) (Reps.none _ _)))
        intro v457 w29 ho30 hb hg_ hnew_; clear hg_ hnew_
        (first | rw [← Ny456.out] at ho30 | (simp only [Int.reduceToNat] at ho30; rw [← Ny456.out] at ho30) | (simp only [Int.toNat_natCast] at ho30; rw [← Ny456.out] at ho30))
        replace HO455 := am (Kd.R_below (rq HO455.out) hb); have HO458 := am (Kd.R_lower (Kd.R_new' ho30 (Kd.R_lt (rq HO452.out))) (below_size bel)); replace HO452 := am (Kd.R_elder' (rq HO452.out) (Kd.R_base ho30) hb); replace HB := am (below_step bel hb); clear hb ho30; obtain ⟨Ao32, co32, eo32⟩ := Kd.R_slice HO455.out
        (first | subst eo32 | (injection eo32 with f1_ f2_ f3_; have f4_ := f1_.symm; have f5_ := f3_.symm; clear f1_ f2_ f3_; subst f4_; subst f5_))
        refine hK.out _ _ trivial (fun hHeld => ?_)
        clear hK K
        refine norm_ (a' := ?_) ?_ ?_
        rotate_left
        ·show Act.put _ (some 43) _ = _
         simp only [Act.put, List.setIfInBounds_toArray, List.set_cons_zero, List.set_cons_succ, i64_w, i32_w]
         rfl
        refine on1 8 44 (fun K hK => ?_)
        have hcv31 := own_string (P := Try.prog) Try.underlying31 Try.underlying5 Try.underlying9 (Kd.own_of_R HO458.out)
        refine value_ (w1 := ?_) (v := ?_) (by rfl) rfl ?_ ?_
        rotate_left 2
        ·go_simp
         constructor
         ·rfl
         ·rfl
        clear hcv31
        refine hK.out _ _ trivial (fun hHeld => ?_)
        clear hK K
        refine norm_ (a' := ?_) ?_ ?_
        rotate_left
        ·show Act.put _ (some 44) _ = _
         simp only [Act.put, List.setIfInBounds_toArray, List.set_cons_zero, List.set_cons_succ, i64_w, i32_w]
         rfl
        refine pu 9 45 ?_
        refine pu 14 50 ?_
        refine on1 15 51 (fun K hK => ?_)
        refine goes_ Try.func113 (by kernel_rfl) rfl #[.slice Ao32 t453.length co32, .string a0, .string (((a0.extract 0 (x4_1 : Int).toNat) ++ (strOfNums y456)) ++ (a0.extract ((ji17) : Int).toNat a0.size))] (by rfl) rfl rfl (by (try simp only [List.map_toArray, List.map_cons, List.map_nil]); first | done | (simp only [hji17]; rfl) | rfl | (simp only [List.length_drop, List.length_take]; rfl)) ?_
        with_reducible refine (spec_l1Step.calls k2 (fun k_ => some k_ = (.slice Ao32 t453.length co32 : Value).ownBlock) (.slice Ao32 t453.length co32) t453 a0 (((a0.extract 0 (x4_1 : Int).toNat) ++ (strOfNums y456)) ++ (a0.extract ((ji17) : Int).toNat a0.size)) t459 w _ ?side1 ?side2 A21.out).mono ?_
        (case side1 => repeat (first | (with_reducible first | exact HB.out | apply below_alloc | apply pw_below_drewN | apply below_drew1) | exact HB.out)); (case side2 => exact Kd.R_tight rfl HO455.out)
        rintro e w33 ⟨v460, rfl, ho0, hb, hkp⟩
        refine ⟨_, rfl, ?_⟩
        replace HO452 := am (Kd.R_mono (ok' := fun k_ => some k_ ≠ (v457 : Value).ownBlock) (Kd.R_keptB ((Kd.R_apart' HO452.out (Kd.R_typed HO455.out) (by decide))) hkp (fun k_ hk_ hs_ => (hk_.2) hs_)) (fun k_ hk_ => by first | exact hk_.1.1.2 | grind))
        replace HO458 := am (Kd.R_mono (ok' := fun k_ => some k_ ≠ (v451 : Value).ownBlock) (Kd.R_keptB ((Kd.R_apart' HO458.out (Kd.R_typed HO455.out) (by decide))) hkp (fun k_ hk_ hs_ => (hk_.2) hs_)) (fun k_ hk_ => by first | exact hk_.1.1.2 | grind))
        have HO461 := am (Kd.R_mono (ok' := fun k_ => True) ho0 (fun k_ hk_ => trivial)); replace HB := am (hb); clear HO455
        (try clear hb)
        (try clear hkp)
        (try clear ho0)
        refine hK.out _ _ trivial (fun hHeld => ?_)
        clear hK K
        refine norm_ (a' := ?_) ?_ ?_
        rotate_left
        ·show Act.put _ (some 51) _ = _
         simp only [Act.put, List.setIfInBounds_toArray, List.set_cons_zero, List.set_cons_succ, i64_w, i32_w]
         rfl
        refine pu 16 3 ?_
        refine done_ (done_of HT_.out (by kernel_rfl)) ?_
        try go_wp2
        go_roundg k2
        case measure => have := HK1.out; have := HK2.out; omega
        case rel => exact ⟨(t459), (wrap32 (x5_2 + 1)), sq, H', ⟨b45_⟩, ⟨rq HO461.out⟩, ⟨bel⟩⟩
       rw [if_neg c13] at H; have c13b0 := decide_eq_false c13; clear c13
       have H' := am H
       clear H
       try go_wp2
       replace HO_3 := am (Kd.R_drew HO_3.out); replace HB := am (below_drew1 HB.out)
       refine st (n := 16) (S := fun w' => True) (ds := []) trivial (fun hHeld => ?_); refine with_tabW spec_l1Near.tab8 spec_l1Near.bits8 (fun HT_ HW_ => ?_)
       generalize wr.drew = w34 at HO_3 HB hHeld ⊢
       refine pu 0 17 ?_
       refine pu 1 18 ?_
       refine pu 2 19 ?_
       refine pu 3 20 ?_
       refine pu 4 21 ?_
       refine pu 5 22 ?_
       refine pu 6 23 ?_
       refine pu 10 27 ?_
       refine pu 11 28 ?_
       refine pu 12 29 ?_
       refine on1 7 24 (fun K hK => ?_)
       refine Kd.R_lit_step (Kd.int .u8) _ 5 ?hg (N := 24) ?hd (xs := ([(x5_2) % 256] : List Int)) (inner := [.int .u8 ((x5_2) % 256)]) (ok := fun _ => True) (okp := fun _ => True) ?hr ?hp (fun _ hk => hk) trivial (Below.refl _ _) (Nat.le_refl _) (by simp) ?_; (case hd => rfl); (case hg => rfl); (case hr => first | (go_simp; done) | (go_simp; rfl)); (case hp => exact (Reps.one (show Kd.M (Kd.int .u8) _ _ _ ((x5_2) % 256) [.int .u8 ((x5_2) % 256)] from rfl) (Reps.none _ _)))
       intro v451 w35 ho36 hb hg_ hnew_; clear hg_ hnew_
       (first | rw [← Ny450.out] at ho36 | (simp only [Int.reduceToNat] at ho36; rw [← Ny450.out] at ho36) | (simp only [Int.toNat_natCast] at ho36; rw [← Ny450.out] at ho36))
       replace HO_3 := am (Kd.R_below (rq HO_3.out) hb); have HO452 := am (Kd.R_lower ho36 (below_size bel)); replace HB := am (below_step bel hb); clear hb ho36; obtain ⟨Ao38, co38, eo38⟩ := Kd.R_slice HO_3.out
       (first | subst eo38 | (injection eo38 with f1_ f2_ f3_; have f4_ := f1_.symm; have f5_ := f3_.symm; clear f1_ f2_ f3_; subst f4_; subst f5_))
       refine hK.out _ _ trivial (fun hHeld => ?_)
       clear hK K
       refine norm_ (a' := ?_) ?_ ?_
       rotate_left
       ·show Act.put _ (some 24) _ = _
        simp only [Act.put, List.setIfInBounds_toArray, List.set_cons_zero, List.set_cons_succ, i64_w, i32_w]
        rfl
       refine on1 8 25 (fun K hK => ?_)
       have hcv37 := own_string (P := Try.prog) Try.underlying31 Try.underlying5 Try.underlying9 (Kd.own_of_R HO452.out)
       refine value_ (w1 := ?_) (v := ?_) (by rfl) rfl ?_ ?_
       rotate_left 2
       ·go_simp
        constructor
        ·rfl
        ·rfl
       clear hcv37
       refine hK.out _ _ trivial (fun hHeld => ?_)
       clear hK K
       refine norm_ (a' := ?_) ?_ ?_
       rotate_left
       ·show Act.put _ (some 25) _ = _
        simp only [Act.put, List.setIfInBounds_toArray, List.set_cons_zero, List.set_cons_succ, i64_w, i32_w]
        rfl
       refine pu 9 26 ?_
       refine pu 13 30 ?_
       refine on1 14 31 (fun K hK => ?_)
       refine goes_ Try.func113 (by kernel_rfl) rfl #[.slice Ao38 x3_2.length co38, .string a0, .string (((a0.extract 0 (x4_1 : Int).toNat) ++ (strOfNums y450)) ++ (a0.extract (x4_1 : Int).toNat a0.size))] (by rfl) rfl rfl mq ?_
       with_reducible refine (spec_l1Step.calls k2 (fun k_ => some k_ = (.slice Ao38 x3_2.length co38 : Value).ownBlock) (.slice Ao38 x3_2.length co38) x3_2 a0 (((a0.extract 0 (x4_1 : Int).toNat) ++ (strOfNums y450)) ++ (a0.extract (x4_1 : Int).toNat a0.size)) t453 w _ ?side1 ?side2 A12.out).mono ?_
       (case side1 => repeat (first | (with_reducible first | exact HB.out | apply below_alloc | apply pw_below_drewN | apply below_drew1) | exact HB.out)); (case side2 => exact Kd.R_tight rfl HO_3.out)
       rintro e w39 ⟨v454, rfl, ho0, hb, hkp⟩
       refine ⟨_, rfl, ?_⟩
       replace HO452 := am (Kd.R_mono (ok' := fun k_ => True) (Kd.R_keptB ((Kd.R_apart' HO452.out (Kd.R_typed HO_3.out) (by decide))) hkp (fun k_ hk_ hs_ => (hk_.2) hs_)) (fun k_ hk_ => trivial))
       have HO455 := am (Kd.R_mono (ok' := fun k_ => True) ho0 (fun k_ hk_ => trivial)); replace HB := am (hb); clear HO_3
       (try clear hb)
       (try clear hkp)
       (try clear ho0)
       refine hK.out _ _ trivial (fun hHeld => ?_)
       clear hK K
       refine norm_ (a' := ?_) ?_ ?_
       rotate_left
       ·show Act.put _ (some 31) _ = _
        simp only [Act.put, List.setIfInBounds_toArray, List.set_cons_zero, List.set_cons_succ, i64_w, i32_w]
        rfl
       refine pu 15 3 ?_
       refine done_ (done_of HT_.out (by kernel_rfl)) ?_
       try go_wp2
       go_roundg k2
       case measure => have := HK1.out; have := HK2.out; omega
       case rel => exact ⟨(t453), (wrap32 (x5_2 + 1)), sq, H', ⟨b45_⟩, ⟨rq HO455.out⟩, ⟨bel⟩⟩
      rw [if_neg c5] at H; have c5b0 := decide_eq_false c5; clear c5; have HC40 := am H; clear H
      go_upto_if 55 with (fail)
      go_cut [3] (fun v3 wc => ∃ (kq : Nat) (x3_39 : List ByteArray), Aside0 (spec_l1Near.j2 kq a0 x3_39 x4_1 = some r) ∧ Aside0 (kq ≤ k2) ∧ Aside0 (Kd.R Kd.string 9 wc w.heap.size (fun _ => True) v3 x3_39) ∧ Aside0 (Below w.heap.size w wc))
      case first =>
       have H := HC40.out; clear HC40
       by_cases c41 : x4_1 < (a0.size : Int)
       ·rw [if_pos c41] at H; have c41b0 := decide_eq_true c41; clear c41
        (first | rw [c41b0] | (simp only [i64_w, i32_w]; rw [c41b0]) | skip)
        replace H := ip H; obtain ⟨c42, H⟩ := H; have c42b0 := eq_true c42
        have c42b1 : decide (0 ≤ x4_1) = true := decide_eq_true c42
        clear c42
        replace H := ip H; obtain ⟨c43, H⟩ := H; have c43b0 := eq_true c43
        have c43b1 : decide (x4_1 ≤ (a0.size : Int)) = true := decide_eq_true c43
        clear c43; obtain ⟨ji44, hji44⟩ : ∃ j_ : Int, (wrap64 (x4_1 + 1)) = j_ := ⟨_, rfl⟩
        replace H : (if 0 ≤ (ji44) then (if (ji44) ≤ (a0.size : Int) then (if (a0.extract 0 (x4_1 : Int).toNat).size + (a0.extract ((ji44) : Int).toNat a0.size).size ≤ 9223372036854775807 then ((spec_l1Step.f k2 x3_2 a0 ((a0.extract 0 (x4_1 : Int).toNat) ++ (a0.extract ((ji44) : Int).toNat a0.size))).bind fun t462 => (spec_l1Near.j2 k2 a0 t462 x4_1)) else (none)) else (none)) else (none)) = some r := by first | (rw [hji44] at H; exact H) | (simp only [hji44] at H ⊢; exact H)
        have hji44w : (IntKind.i64.wrap (x4_1 + 1)) = ji44 := (i64_w _).trans hji44
        (try clear hji17w)
        replace H := ip H; obtain ⟨c45, H⟩ := H; have c45b0 := eq_true c45
        have c45b1 : decide (0 ≤ (ji44)) = true := decide_eq_true c45
        clear c45
        replace H := ip H; obtain ⟨c46, H⟩ := H; have c46b0 := eq_true c46
        have c46b1 : decide ((ji44) ≤ (a0.size : Int)) = true := decide_eq_true c46
        clear c46
        replace H := ip H; obtain ⟨c47, H⟩ := H; have c47b0 := eq_true c47; have c47b5 := c47
        try simp at c47b5
        try have c47b4 := eq_false (Nat.not_lt.2 c47b5)
        try have c47b3 : (9223372036854775807 < (x4_1 : Int).toNat + (a0.size - ((ji44) : Int).toNat)) = False := by
              have h_ := c47
              simp only [ByteArray.size_append, ByteArray.size_extract] at h_
              have g0_ : (x4_1) ≤ (a0.size : Int) := of_decide_eq_true ad
              exact eq_false (by omega)
        have c47b1 : decide ((a0.extract 0 (x4_1 : Int).toNat).size + (a0.extract ((ji44) : Int).toNat a0.size).size ≤ 9223372036854775807) = true := decide_eq_true c47
        try have c47b2 : (9223372036854775807 < (a0.extract 0 (x4_1 : Int).toNat).size + (a0.extract ((ji44) : Int).toNat a0.size).size) = False := eq_false (Nat.not_lt.2 c47)
        replace H := bs H; obtain ⟨t462, A480, H⟩ := H; replace H : (spec_l1Near.j2 k2 a0 t462 x4_1) = some r := H; have A48 := Aside0.mk A480; clear A480
        have H' := am H
        clear H
        try go_wp2
        replace HO_3 := am (Kd.R_drew HO_3.out); replace HB := am (below_drew1 HB.out); obtain ⟨Ao50, co50, eo50⟩ := Kd.R_slice HO_3.out
        (first | subst eo50 | (injection eo50 with f1_ f2_ f3_; have f4_ := f1_.symm; have f5_ := f3_.symm; clear f1_ f2_ f3_; subst f4_; subst f5_))
        refine st (n := 12) (S := fun w' => True) (ds := []) trivial (fun hHeld => ?_); refine with_tabW spec_l1Near.tab12 spec_l1Near.bits12 (fun HT_ HW_ => ?_)
        generalize wr.drew = w49 at HO_3 HB hHeld ⊢
        refine pu 0 56 ?_
        refine pu 1 57 ?_
        refine pu 2 58 ?_
        refine pu 3 59 ?_
        refine pu 4 60 ?_
        refine pu 5 61 ?_
        refine pu 6 62 ?_
        refine pu 7 63 ?_
        refine pu 8 64 ?_
        refine pu 9 65 ?_
        refine on1 10 66 (fun K hK => ?_)
        refine goes_ Try.func113 (by kernel_rfl) rfl #[.slice Ao50 x3_2.length co50, .string a0, .string ((a0.extract 0 (x4_1 : Int).toNat) ++ (a0.extract ((ji44) : Int).toNat a0.size))] (by rfl) rfl rfl (by (try simp only [List.map_toArray, List.map_cons, List.map_nil]); first | done | (simp only [hji44]; rfl) | rfl | (simp only [List.length_drop, List.length_take]; rfl)) ?_
        with_reducible refine (spec_l1Step.calls k2 (fun k_ => some k_ = (.slice Ao50 x3_2.length co50 : Value).ownBlock) (.slice Ao50 x3_2.length co50) x3_2 a0 ((a0.extract 0 (x4_1 : Int).toNat) ++ (a0.extract ((ji44) : Int).toNat a0.size)) t462 w _ ?side1 ?side2 A48.out).mono ?_
        (case side1 => repeat (first | (with_reducible first | exact HB.out | apply below_alloc | apply pw_below_drewN | apply below_drew1) | exact HB.out)); (case side2 => exact Kd.R_tight rfl HO_3.out)
        rintro e w51 ⟨v463, rfl, ho0, hb, hkp⟩
        refine ⟨_, rfl, ?_⟩
        have HO464 := am (Kd.R_mono (ok' := fun k_ => True) ho0 (fun k_ hk_ => trivial)); replace HB := am (hb); clear HO_3
        (try clear hb)
        (try clear hkp)
        (try clear ho0)
        refine hK.out _ _ trivial (fun hHeld => ?_)
        clear hK K
        refine norm_ (a' := ?_) ?_ ?_
        rotate_left
        ·show Act.put _ (some 66) _ = _
         simp only [Act.put, List.setIfInBounds_toArray, List.set_cons_zero, List.set_cons_succ, i64_w, i32_w]
         rfl
        refine pu 11 3 ?_
        refine done_ (done_of HT_.out (by kernel_rfl)) ?_
        try go_wp2
        go_meet
        case rel => exact ⟨_, (t462), H', ⟨b59_⟩, ⟨rq HO464.out⟩, ⟨bel⟩⟩
       rw [if_neg c41] at H; have c41b0 := decide_eq_false c41; clear c41
       (first | rw [c41b0] | (simp only [i64_w, i32_w]; rw [c41b0]) | skip)
       have H' := am H
       clear H; go_wp2
       go_meet
       case rel => exact ⟨_, (x3_2), H', ⟨b59_⟩, ⟨rq HO_3.out⟩, ⟨bel⟩⟩
      case rest =>
       clear HC40; (try clear c1); (try clear c2); (try clear p2); (try clear p3); (try clear hcv3); (try clear c4); (try clear c5); (try clear c5b0); (try clear c6); (try clear p6); (try clear c7); (try clear c8); (try clear c11); (try clear c13); (try clear c13b0); (try clear c16); (try clear c18); (try clear c19); (try clear c20); (try clear hcv31); (try clear p32); (try clear hcv37); (try clear c41); (try clear c41b0); (try clear c42); (try clear c42b0); (try clear c42b1); (try clear c43); (try clear c43b0); (try clear c43b1); (try clear c45); (try clear c45b0); (try clear c45b1); (try clear c46); (try clear c46b0); (try clear c46b1); (try clear c47); (try clear c47b0); (try clear c47b1); (try clear c47b2); obtain ⟨kq, x3_39, HA, HJ39, HO_3, HB⟩ := hcut
       cases kq with
       | zero => exact absurd HA.out (by simp [spec_l1Near.j2])
       | succ kj39 =>
        have H := HA.out; clear HA
        simp only [spec_l1Near.j2] at H
        by_cases c52 : (wrap64 (x4_1 + 1)) < (a0.size : Int)
        ·rw [if_pos c52] at H; have c52b0 := decide_eq_true c52; clear c52
         replace H := ip H; obtain ⟨c53, H⟩ := H; have c53b0 := eq_true c53
         have c53b1 : decide (0 ≤ x4_1) = true := decide_eq_true c53
         clear c53
         replace H := ip H; obtain ⟨c54, H⟩ := H; have c54b0 := eq_true c54
         have c54b1 : decide (x4_1 ≤ (a0.size : Int)) = true := decide_eq_true c54
         clear c54; obtain ⟨ji55, hji55⟩ : ∃ j_ : Int, (wrap64 (x4_1 + 1)) = j_ := ⟨_, rfl⟩
         replace H : (if 0 ≤ (ji55) then (if (ji55) ≤ (wrap64 (x4_1 + 2)) then (if (wrap64 (x4_1 + 2)) ≤ (a0.size : Int) then (if (a0.extract 0 (x4_1 : Int).toNat).size + (a0.extract ((ji55) : Int).toNat ((wrap64 (x4_1 + 2)) : Int).toNat).size ≤ 9223372036854775807 then (if x4_1 ≤ (ji55) then (if (ji55) ≤ (a0.size : Int) then (if ((a0.extract 0 (x4_1 : Int).toNat) ++ (a0.extract ((ji55) : Int).toNat ((wrap64 (x4_1 + 2)) : Int).toNat)).size + (a0.extract (x4_1 : Int).toNat ((ji55) : Int).toNat).size ≤ 9223372036854775807 then (if 0 ≤ (wrap64 (x4_1 + 2)) then (if (((a0.extract 0 (x4_1 : Int).toNat) ++ (a0.extract ((ji55) : Int).toNat ((wrap64 (x4_1 + 2)) : Int).toNat)) ++ (a0.extract (x4_1 : Int).toNat ((ji55) : Int).toNat)).size + (a0.extract ((wrap64 (x4_1 + 2)) : Int).toNat a0.size).size ≤ 9223372036854775807 then ((spec_l1Step.f kj39 x3_39 a0 ((((a0.extract 0 (x4_1 : Int).toNat) ++ (a0.extract ((ji55) : Int).toNat ((wrap64 (x4_1 + 2)) : Int).toNat)) ++ (a0.extract (x4_1 : Int).toNat ((ji55) : Int).toNat)) ++ (a0.extract ((wrap64 (x4_1 + 2)) : Int).toNat a0.size))).bind fun t465 => (spec_l1Near.l0 kj39 a0 t465 ji55)) else (none)) else (none)) else (none)) else (none)) else (none)) else (none)) else (none)) else (none)) else (none)) = some r := by first | (rw [hji55] at H; exact H) | (simp only [hji55] at H ⊢; exact H)
         (try rw [hji55] at c52b0)
         have hji55w : (IntKind.i64.wrap (x4_1 + 1)) = ji55 := (i64_w _).trans hji55
         (try clear hji17w)
         (try clear hji44w)
         replace H := ip H; obtain ⟨c56, H⟩ := H; have c56b0 := eq_true c56
         have c56b1 : decide (0 ≤ (ji55)) = true := decide_eq_true c56
         clear c56
         replace H := ip H; obtain ⟨c57, H⟩ := H; have c57b0 := eq_true c57
         have c57b1 : decide ((ji55) ≤ (wrap64 (x4_1 + 2))) = true := decide_eq_true c57
         replace H := ip H; obtain ⟨c58, H⟩ := H; have c58b0 := eq_true c58
         have c58b1 : decide ((wrap64 (x4_1 + 2)) ≤ (a0.size : Int)) = true := decide_eq_true c58
         replace H := ip H; obtain ⟨c59, H⟩ := H; have c59b0 := eq_true c59; have c59b5 := c59
         try simp at c59b5
         try have c59b4 := eq_false (Nat.not_lt.2 c59b5)
         try have c59b3 : (9223372036854775807 < (x4_1 : Int).toNat + (((wrap64 (x4_1 + 2)) : Int).toNat - ((ji55) : Int).toNat)) = False := by
               have h_ := c59
               simp only [ByteArray.size_append, ByteArray.size_extract] at h_
               have g0_ : (x4_1) ≤ (a0.size : Int) := of_decide_eq_true ad
               have g1_ : ((wrap64 (x4_1 + 2))) ≤ (a0.size : Int) := of_decide_eq_true ad
               exact eq_false (by omega)
         have c59b1 : decide ((a0.extract 0 (x4_1 : Int).toNat).size + (a0.extract ((ji55) : Int).toNat ((wrap64 (x4_1 + 2)) : Int).toNat).size ≤ 9223372036854775807) = true := decide_eq_true c59
         try have c59b2 : (9223372036854775807 < (a0.extract 0 (x4_1 : Int).toNat).size + (a0.extract ((ji55) : Int).toNat ((wrap64 (x4_1 + 2)) : Int).toNat).size) = False := eq_false (Nat.not_lt.2 c59)
         have c60b0 := eq_true (of_decide_eq_true ad : 0 ≤ x4_1)
         replace H := ip H; obtain ⟨c61, H⟩ := H; have c61b0 := eq_true c61
         have c61b1 : decide (x4_1 ≤ (ji55)) = true := decide_eq_true c61
         clear c61
         replace H := ip H; obtain ⟨c62, H⟩ := H; have c62b0 := eq_true c62
         have c62b1 : decide ((ji55) ≤ (a0.size : Int)) = true := decide_eq_true c62
         clear c62
         replace H := ip H; obtain ⟨c63, H⟩ := H; have c63b0 := eq_true c63; have c63b5 := c63
         try simp at c63b5
         try have c63b4 := eq_false (Nat.not_lt.2 c63b5)
         try have c63b3 : (9223372036854775807 < (x4_1 : Int).toNat + (((wrap64 (x4_1 + 2)) : Int).toNat - ((ji55) : Int).toNat) + (((ji55) : Int).toNat - (x4_1 : Int).toNat)) = False := by
               have h_ := c63
               simp only [ByteArray.size_append, ByteArray.size_extract] at h_
               have g0_ : (x4_1) ≤ (a0.size : Int) := of_decide_eq_true ad
               have g1_ : ((wrap64 (x4_1 + 2))) ≤ (a0.size : Int) := of_decide_eq_true ad
               have g2_ : ((ji55)) ≤ (a0.size : Int) := of_decide_eq_true ad
               exact eq_false (by omega)
         have c63b1 : decide (((a0.extract 0 (x4_1 : Int).toNat) ++ (a0.extract ((ji55) : Int).toNat ((wrap64 (x4_1 + 2)) : Int).toNat)).size + (a0.extract (x4_1 : Int).toNat ((ji55) : Int).toNat).size ≤ 9223372036854775807) = true := decide_eq_true c63
         try have c63b2 : (9223372036854775807 < ((a0.extract 0 (x4_1 : Int).toNat) ++ (a0.extract ((ji55) : Int).toNat ((wrap64 (x4_1 + 2)) : Int).toNat)).size + (a0.extract (x4_1 : Int).toNat ((ji55) : Int).toNat).size) = False := eq_false (Nat.not_lt.2 c63)
         obtain ⟨ji64, hji64⟩ : ∃ j_ : Int, (wrap64 (x4_1 + 2)) = j_ := ⟨_, rfl⟩
         replace H : (if 0 ≤ (ji64) then (if (((a0.extract 0 (x4_1 : Int).toNat) ++ (a0.extract ((ji55) : Int).toNat ((ji64) : Int).toNat)) ++ (a0.extract (x4_1 : Int).toNat ((ji55) : Int).toNat)).size + (a0.extract ((ji64) : Int).toNat a0.size).size ≤ 9223372036854775807 then ((spec_l1Step.f kj39 x3_39 a0 ((((a0.extract 0 (x4_1 : Int).toNat) ++ (a0.extract ((ji55) : Int).toNat ((ji64) : Int).toNat)) ++ (a0.extract (x4_1 : Int).toNat ((ji55) : Int).toNat)) ++ (a0.extract ((ji64) : Int).toNat a0.size))).bind fun t465 => (spec_l1Near.l0 kj39 a0 t465 ji55)) else (none)) else (none)) = some r := by first | (rw [hji64] at H; exact H) | (simp only [hji64] at H ⊢; exact H)
         (try rw [hji64] at c57b0)
         (try rw [hji64] at c57b1)
         (try rw [hji64] at c57)
         (try rw [hji64] at c58b0)
         (try rw [hji64] at c58b1)
         (try rw [hji64] at c58)
         (try rw [hji64] at c59b0)
         (try rw [hji64] at c59b3)
         (try rw [hji64] at c59b4)
         (try rw [hji64] at c59b5)
         (try rw [hji64] at c59b1)
         (try rw [hji64] at c59)
         (try rw [hji64] at c63b0)
         (try rw [hji64] at c63b3)
         (try rw [hji64] at c63b4)
         (try rw [hji64] at c63b5)
         (try rw [hji64] at c63b1)
         (try rw [hji64] at c63)
         have hji64w : (IntKind.i64.wrap (x4_1 + 2)) = ji64 := (i64_w _).trans hji64
         replace H := ip H; obtain ⟨c65, H⟩ := H; have c65b0 := eq_true c65
         have c65b1 : decide (0 ≤ (ji64)) = true := decide_eq_true c65
         clear c65; have c66b0 := eq_true (of_decide_eq_true ad : (ji64) ≤ (a0.size : Int))
         replace H := ip H; obtain ⟨c67, H⟩ := H; have c67b0 := eq_true c67; have c67b5 := c67
         try simp at c67b5
         try have c67b4 := eq_false (Nat.not_lt.2 c67b5)
         try have c67b3 : (9223372036854775807 < (x4_1 : Int).toNat + (((ji64) : Int).toNat - ((ji55) : Int).toNat) + (((ji55) : Int).toNat - (x4_1 : Int).toNat) + (a0.size - ((ji64) : Int).toNat)) = False := by
               have h_ := c67
               simp only [ByteArray.size_append, ByteArray.size_extract] at h_
               have g0_ : (x4_1) ≤ (a0.size : Int) := of_decide_eq_true ad
               have g1_ : ((ji64)) ≤ (a0.size : Int) := of_decide_eq_true ad
               have g2_ : ((ji55)) ≤ (a0.size : Int) := of_decide_eq_true ad
               exact eq_false (by omega)
         have c67b1 : decide ((((a0.extract 0 (x4_1 : Int).toNat) ++ (a0.extract ((ji55) : Int).toNat ((ji64) : Int).toNat)) ++ (a0.extract (x4_1 : Int).toNat ((ji55) : Int).toNat)).size + (a0.extract ((ji64) : Int).toNat a0.size).size ≤ 9223372036854775807) = true := decide_eq_true c67
         try have c67b2 : (9223372036854775807 < (((a0.extract 0 (x4_1 : Int).toNat) ++ (a0.extract ((ji55) : Int).toNat ((ji64) : Int).toNat)) ++ (a0.extract (x4_1 : Int).toNat ((ji55) : Int).toNat)).size + (a0.extract ((ji64) : Int).toNat a0.size).size) = False := eq_false (Nat.not_lt.2 c67)
         replace H := bs H; obtain ⟨t465, A680, H⟩ := H; replace H : (spec_l1Near.l0 kj39 a0 t465 ji55) = some r := H; have A68 := Aside0.mk A680; clear A680
         have H' := am H
         clear H
         try go_wp2
         replace HO_3 := am (Kd.R_drew HO_3.out); replace HB := am (below_drew1 HB.out); obtain ⟨Ao70, co70, eo70⟩ := Kd.R_slice HO_3.out
         (first | subst eo70 | (injection eo70 with f1_ f2_ f3_; have f4_ := f1_.symm; have f5_ := f3_.symm; clear f1_ f2_ f3_; subst f4_; subst f5_))
         refine st (n := 25) (S := fun w' => True) (ds := []) trivial (fun hHeld => ?_); refine with_tabW spec_l1Near.tab14 spec_l1Near.bits14 (fun HT_ HW_ => ?_)
         generalize wc.drew = w69 at HO_3 HB hHeld ⊢
         refine pu 0 72 ?_
         refine pu 1 73 ?_
         refine pu 2 74 ?_
         refine pu 3 75 ?_
         refine pu 4 76 ?_
         refine pu 5 77 ?_
         refine pu 6 78 ?_
         refine pu 7 79 ?_
         refine pu 8 80 ?_
         refine pu 9 81 ?_
         refine pu 10 82 ?_
         refine pu 11 83 ?_
         refine pu 12 84 ?_
         refine pu 13 85 ?_
         refine pu 14 86 ?_
         refine pu 15 87 ?_
         refine pu 16 88 ?_
         refine pu 17 89 ?_
         refine pu 18 90 ?_
         refine pu 19 91 ?_
         refine pu 20 92 ?_
         refine pu 21 93 ?_
         refine pu 22 94 ?_
         refine on1 23 95 (fun K hK => ?_)
         refine goes_ Try.func113 (by kernel_rfl) rfl #[.slice Ao70 x3_39.length co70, .string a0, .string ((((a0.extract 0 (x4_1 : Int).toNat) ++ (a0.extract ((ji55) : Int).toNat ((ji64) : Int).toNat)) ++ (a0.extract (x4_1 : Int).toNat ((ji55) : Int).toNat)) ++ (a0.extract ((ji64) : Int).toNat a0.size))] (by rfl) rfl rfl (by (try simp only [List.map_toArray, List.map_cons, List.map_nil]); first | done | (simp only [hji55, hji64]; rfl) | rfl | (simp only [List.length_drop, List.length_take]; rfl)) ?_
         with_reducible refine (spec_l1Step.calls kj39 (fun k_ => some k_ = (.slice Ao70 x3_39.length co70 : Value).ownBlock) (.slice Ao70 x3_39.length co70) x3_39 a0 ((((a0.extract 0 (x4_1 : Int).toNat) ++ (a0.extract ((ji55) : Int).toNat ((ji64) : Int).toNat)) ++ (a0.extract (x4_1 : Int).toNat ((ji55) : Int).toNat)) ++ (a0.extract ((ji64) : Int).toNat a0.size)) t465 w _ ?side1 ?side2 A68.out).mono ?_
         (case side1 => repeat (first | (with_reducible first | exact HB.out | apply below_alloc | apply pw_below_drewN | apply below_drew1) | exact HB.out)); (case side2 => exact Kd.R_tight rfl HO_3.out)
         rintro e w71 ⟨v466, rfl, ho0, hb, hkp⟩
         refine ⟨_, rfl, ?_⟩
         have HO467 := am (Kd.R_mono (ok' := fun k_ => True) ho0 (fun k_ hk_ => trivial)); replace HB := am (hb); clear HO_3
         (try clear hb)
         (try clear hkp)
         (try clear ho0)
         refine hK.out _ _ trivial (fun hHeld => ?_)
         clear hK K
         refine norm_ (a' := ?_) ?_ ?_
         rotate_left
         ·show Act.put _ (some 95) _ = _
          simp only [Act.put, List.setIfInBounds_toArray, List.set_cons_zero, List.set_cons_succ, i64_w, i32_w]
          rfl
         refine pu 24 3 ?_
         refine done_ (done_of HT_.out (by kernel_rfl)) ?_
         try go_wp2
         go_roundg kj39
         case measure => have := HK1.out; have := HK2.out; have := HJ39.out; omega
         case rel => exact ⟨(t465), (ji55), (by first | rfl | (simp; done) | (simp only [← hji55] <;> (first | rfl | simp)) | (simp [*]; done)), H', ⟨by have := HK1.out; have := HK2.out; have := HJ39.out; omega⟩, ⟨rq HO467.out⟩, ⟨bel⟩⟩
        rw [if_neg c52] at H; have c52b0 := decide_eq_false c52; clear c52
        have H' := am H
        clear H; go_wp2
        go_roundg kj39
        case measure => have := HK1.out; have := HK2.out; have := HJ39.out; omega
        case rel => exact ⟨(x3_39), (wrap64 (x4_1 + 1)), sq, H', ⟨by have := HK1.out; have := HK2.out; have := HJ39.out; omega⟩, ⟨rq HO_3.out⟩, ⟨bel⟩⟩
   rw [if_neg c4] at H; have c4b0 := decide_eq_false c4; clear c4; obtain rfl := Option.some.inj H; go_wp2; go_ret
   exact ⟨_, eq_, b48_, bel⟩
-- shrunk

attribute [local go_sem high] eqA36
/-! ### spec_l13Other: function 68 -/
def spec_l13Other.j0 : Nat → ByteArray → Bool → List Int → Int → Option (ByteArray × Int)
 | 0, _, _, _, _ => none
 | k + 1, x1, x12, x1000, x1001 => if x12 = true then ((spec_l1Near.f k x1).bind fun t471 => ((spec_l1Rd_pick.f k x1000 x1001 256).bind fun bt474 => ((spec_l1Rd_pick.f k x1000 bt474.2 256).bind fun bt476 => (if (t471.length : Int) = 0 then (none) else (if 0 ≤ (Int.tmod (wrap64 ((wrap64 (bt474.1 * 256)) + bt476.1)) (t471.length : Int)) then (if (Int.tmod (wrap64 ((wrap64 (bt474.1 * 256)) + bt476.1)) (t471.length : Int)) < (t471.length : Int) then ((spec_l1Rd_pick.f k x1000 bt476.2 3).bind fun bt479 => (if bt479.1 = 0 then ((spec_l1Near.f k (rdOf ByteArray.empty t471 (Int.tmod (wrap64 ((wrap64 (bt474.1 * 256)) + bt476.1)) (t471.length : Int)))).bind fun t481 => ((spec_l1Rd_pick.f k x1000 bt479.2 256).bind fun bt484 => ((spec_l1Rd_pick.f k x1000 bt484.2 256).bind fun bt486 => (if (t481.length : Int) = 0 then (none) else (if 0 ≤ (Int.tmod (wrap64 ((wrap64 (bt484.1 * 256)) + bt486.1)) (t481.length : Int)) then (if (Int.tmod (wrap64 ((wrap64 (bt484.1 * 256)) + bt486.1)) (t481.length : Int)) < (t481.length : Int) then (some (rdOf ByteArray.empty t481 (Int.tmod (wrap64 ((wrap64 (bt484.1 * 256)) + bt486.1)) (t481.length : Int)), bt486.2)) else (none)) else (none)))))) else (some (rdOf ByteArray.empty t471 (Int.tmod (wrap64 ((wrap64 (bt474.1 * 256)) + bt476.1)) (t471.length : Int)), bt479.2)))) else (none)) else (none)))))) else ((spec_l13AnyWord.f k x1000 x1001).bind fun bt489 => (some (bt489.1, bt489.2)))
def spec_l13Other.f (k : Nat) (s0_0 : List Int) (s0_1 : Int) (a1 : ByteArray) : Option (ByteArray × Int) := (spec_l1Word.f k a1).bind fun t468 => (if t468 = true then ((spec_l1Rd_pick.f k s0_0 s0_1 2).bind fun bt469 => (spec_l13Other.j0 k a1 (bt469.1 == 0) s0_0 bt469.2)) else (spec_l13Other.j0 k a1 false s0_0 s0_1))
theorem spec_l13Other.calls (k : Nat) (g : Nat) (s0_0 : List Int) (s0_1 : Int) (a1 : ByteArray) (r1 : ByteArray) (r2 : Int) (w0 w : World) (hI : IsS127 w0 w g s0_0 s0_1) (hB : Below w0.heap.size w0 w) (h : spec_l13Other.f k s0_0 s0_1 a1 = some (r1, r2)) :
  Calls Try.prog 68 #[.pointer (some ⟨g, 0, none⟩), .string a1] w fun e w' => e = .returned (.string r1) ∧ IsS127 w0 w' g s0_0 r2 ∧ Below w0.heap.size w0 w' ∧ KeepBut w w' g none := by
 have HI0 := am hI; have HK := am (KeepBut.refl w g none); have HL := am hB.size; clear hI; have HW0 := am hB.size; have HB := am hB; clear hB
 have H : ((spec_l1Word.f k a1).bind fun t468 => (if t468 = true then ((spec_l1Rd_pick.f k s0_0 s0_1 2).bind fun bt469 => (spec_l13Other.j0 k a1 (bt469.1 == 0) s0_0 bt469.2)) else (spec_l13Other.j0 k a1 false s0_0 s0_1))) = some (r1, r2) := h
 clear h; have HC3 := am H; clear H; go_enter Try.func68, Try.ntmps68
 go_upto_region 1 with (fail)
 go_cut [12] (fun v12 wc => ∃ (kq : Nat) (x12_2 : Bool) (x1001_2 : Int), v12 = .bool x12_2 ∧ Aside0 (spec_l13Other.j0 kq a1 x12_2 s0_0 x1001_2 = some (r1, r2)) ∧ Aside0 (kq ≤ k) ∧ Aside0 (IsS127 w0 wc g s0_0 x1001_2) ∧ Aside0 (KeepBut w wc g none) ∧ Aside0 (Below w0.heap.size w0 wc))
 case first =>
  have H := HC3.out; clear HC3; replace H := bs H; obtain ⟨t468, A40, H⟩ := H; replace H : (if t468 = true then ((spec_l1Rd_pick.f k s0_0 s0_1 2).bind fun bt469 => (spec_l13Other.j0 k a1 (bt469.1 == 0) s0_0 bt469.2)) else (spec_l13Other.j0 k a1 false s0_0 s0_1)) = some (r1, r2) := H; have A4 := Aside0.mk A40; clear A40
  by_cases c5 : t468 = true
  ·subst c5
   have H1 : ((spec_l1Rd_pick.f k s0_0 s0_1 2).bind fun bt469 => (spec_l13Other.j0 k a1 (bt469.1 == 0) s0_0 bt469.2)) = some (r1, r2) := b19_
   replace H := H1; clear H1
   replace H := bs H; obtain ⟨⟨t469, t470⟩, A60, H⟩ := H; replace H : (spec_l13Other.j0 k a1 (t469 == 0) s0_0 t470) = some (r1, r2) := H; have A6 := Aside0.mk A60; clear A60
   have H' := am H
   clear H
   go_wp2_with (first | ((with_reducible refine gate_callee (f := 57) rfl ?_); refine goesL_ (some 7) rfl rfl Try.func57 (by kernel_rfl) rfl #[.string a1] rfl mq ?_; (with_reducible refine (spec_l1Word.calls k a1 true _ A4.out).mono ?_); rintro e w' ⟨rfl, ⟨nd, rfl⟩⟩; refine ⟨_, rfl, ?_⟩) | (go_at_call 67; (with_reducible refine (spec_l1Rd_pick.calls k g s0_0 s0_1 2 t469 t470 w0 _ ?side1 ?side2 A6.out).mono ?_); (case side1 => repeat (first | (with_reducible first | exact HI0.out | apply IsS127.alloc | apply IsS127.drewN | apply IsS127.drew | apply IsS127.set_1) | exact HI0.out)); (case side2 => repeat (first | (with_reducible first | exact HB.out | apply below_alloc | apply pw_below_drewN | apply below_drew1 | refine below_set ?_ (IsS127.ge HI0.out)) | exact HB.out)); rintro e w7 ⟨rfl, hi, hb, hk⟩; replace HK := am (KeepBut.trans b0_ hk (.inl rfl)); replace HB := am (hb); replace HI0 := am (hi); (try clear hb); (try clear hb2); (try clear hk); (try clear hi)))
   go_meet
   case rel => exact ⟨_, ((t469 == 0)), (t470), sq, H', ⟨b46_⟩, ⟨b2_⟩, ⟨b0_⟩, ⟨b1_⟩⟩
  replace c5 := Bool.eq_false_iff.mpr c5; subst c5
  have H1 : (spec_l13Other.j0 k a1 false s0_0 s0_1) = some (r1, r2) := b7_
  replace H := H1; clear H1
  have H' := am H
  clear H
  go_wp2_with (first | ((with_reducible refine gate_callee (f := 57) rfl ?_); refine goesL_ (some 7) rfl rfl Try.func57 (by kernel_rfl) rfl #[.string a1] rfl mq ?_; (with_reducible refine (spec_l1Word.calls k a1 false _ A4.out).mono ?_); rintro e w' ⟨rfl, ⟨nd, rfl⟩⟩; refine ⟨_, rfl, ?_⟩))
  go_meet
  case rel => exact ⟨_, (false), (s0_1), sq, H', ⟨b46_⟩, ⟨b2_⟩, ⟨b0_⟩, ⟨b1_⟩⟩
 case rest =>
  clear HC3; (try clear p2); (try clear c5); (try clear c6); obtain ⟨kq, x12_2, x1001_2, rfl, HA, HJ2, HI0, HK, HB⟩ := hcut
  cases kq with
  | zero => exact absurd HA.out (by simp [spec_l13Other.j0])
  | succ kj2 =>
   have H := HA.out; clear HA
   simp only [spec_l13Other.j0] at H
   by_cases c8 : x12_2 = true
   ·subst c8
    have H1 : ((spec_l1Near.f kj2 a1).bind fun t471 => ((spec_l1Rd_pick.f kj2 s0_0 x1001_2 256).bind fun bt474 => ((spec_l1Rd_pick.f kj2 s0_0 bt474.2 256).bind fun bt476 => (if (t471.length : Int) = 0 then (none) else (if 0 ≤ (Int.tmod (wrap64 ((wrap64 (bt474.1 * 256)) + bt476.1)) (t471.length : Int)) then (if (Int.tmod (wrap64 ((wrap64 (bt474.1 * 256)) + bt476.1)) (t471.length : Int)) < (t471.length : Int) then ((spec_l1Rd_pick.f kj2 s0_0 bt476.2 3).bind fun bt479 => (if bt479.1 = 0 then ((spec_l1Near.f kj2 (rdOf ByteArray.empty t471 (Int.tmod (wrap64 ((wrap64 (bt474.1 * 256)) + bt476.1)) (t471.length : Int)))).bind fun t481 => ((spec_l1Rd_pick.f kj2 s0_0 bt479.2 256).bind fun bt484 => ((spec_l1Rd_pick.f kj2 s0_0 bt484.2 256).bind fun bt486 => (if (t481.length : Int) = 0 then (none) else (if 0 ≤ (Int.tmod (wrap64 ((wrap64 (bt484.1 * 256)) + bt486.1)) (t481.length : Int)) then (if (Int.tmod (wrap64 ((wrap64 (bt484.1 * 256)) + bt486.1)) (t481.length : Int)) < (t481.length : Int) then (some (rdOf ByteArray.empty t481 (Int.tmod (wrap64 ((wrap64 (bt484.1 * 256)) + bt486.1)) (t481.length : Int)), bt486.2)) else (none)) else (none)))))) else (some (rdOf ByteArray.empty t471 (Int.tmod (wrap64 ((wrap64 (bt474.1 * 256)) + bt476.1)) (t471.length : Int)), bt479.2)))) else (none)) else (none)))))) = some (r1, r2) := b19_
    replace H := H1; clear H1
    replace H := bs H; obtain ⟨t471, A90, H⟩ := H; replace H : ((spec_l1Rd_pick.f kj2 s0_0 x1001_2 256).bind fun bt474 => ((spec_l1Rd_pick.f kj2 s0_0 bt474.2 256).bind fun bt476 => (if (t471.length : Int) = 0 then (none) else (if 0 ≤ (Int.tmod (wrap64 ((wrap64 (bt474.1 * 256)) + bt476.1)) (t471.length : Int)) then (if (Int.tmod (wrap64 ((wrap64 (bt474.1 * 256)) + bt476.1)) (t471.length : Int)) < (t471.length : Int) then ((spec_l1Rd_pick.f kj2 s0_0 bt476.2 3).bind fun bt479 => (if bt479.1 = 0 then ((spec_l1Near.f kj2 (rdOf ByteArray.empty t471 (Int.tmod (wrap64 ((wrap64 (bt474.1 * 256)) + bt476.1)) (t471.length : Int)))).bind fun t481 => ((spec_l1Rd_pick.f kj2 s0_0 bt479.2 256).bind fun bt484 => ((spec_l1Rd_pick.f kj2 s0_0 bt484.2 256).bind fun bt486 => (if (t481.length : Int) = 0 then (none) else (if 0 ≤ (Int.tmod (wrap64 ((wrap64 (bt484.1 * 256)) + bt486.1)) (t481.length : Int)) then (if (Int.tmod (wrap64 ((wrap64 (bt484.1 * 256)) + bt486.1)) (t481.length : Int)) < (t481.length : Int) then (some (rdOf ByteArray.empty t481 (Int.tmod (wrap64 ((wrap64 (bt484.1 * 256)) + bt486.1)) (t481.length : Int)), bt486.2)) else (none)) else (none)))))) else (some (rdOf ByteArray.empty t471 (Int.tmod (wrap64 ((wrap64 (bt474.1 * 256)) + bt476.1)) (t471.length : Int)), bt479.2)))) else (none)) else (none))))) = some (r1, r2) := H; have A9 := Aside0.mk A90; clear A90; replace H := bs H; obtain ⟨⟨t474, t475⟩, A100, H⟩ := H; replace H : ((spec_l1Rd_pick.f kj2 s0_0 t475 256).bind fun bt476 => (if (t471.length : Int) = 0 then (none) else (if 0 ≤ (Int.tmod (wrap64 ((wrap64 (t474 * 256)) + bt476.1)) (t471.length : Int)) then (if (Int.tmod (wrap64 ((wrap64 (t474 * 256)) + bt476.1)) (t471.length : Int)) < (t471.length : Int) then ((spec_l1Rd_pick.f kj2 s0_0 bt476.2 3).bind fun bt479 => (if bt479.1 = 0 then ((spec_l1Near.f kj2 (rdOf ByteArray.empty t471 (Int.tmod (wrap64 ((wrap64 (t474 * 256)) + bt476.1)) (t471.length : Int)))).bind fun t481 => ((spec_l1Rd_pick.f kj2 s0_0 bt479.2 256).bind fun bt484 => ((spec_l1Rd_pick.f kj2 s0_0 bt484.2 256).bind fun bt486 => (if (t481.length : Int) = 0 then (none) else (if 0 ≤ (Int.tmod (wrap64 ((wrap64 (bt484.1 * 256)) + bt486.1)) (t481.length : Int)) then (if (Int.tmod (wrap64 ((wrap64 (bt484.1 * 256)) + bt486.1)) (t481.length : Int)) < (t481.length : Int) then (some (rdOf ByteArray.empty t481 (Int.tmod (wrap64 ((wrap64 (bt484.1 * 256)) + bt486.1)) (t481.length : Int)), bt486.2)) else (none)) else (none)))))) else (some (rdOf ByteArray.empty t471 (Int.tmod (wrap64 ((wrap64 (t474 * 256)) + bt476.1)) (t471.length : Int)), bt479.2)))) else (none)) else (none)))) = some (r1, r2) := H; have A10 := Aside0.mk A100; clear A100; replace H := bs H; obtain ⟨⟨t476, t477⟩, A110, H⟩ := H; replace H : (if (t471.length : Int) = 0 then (none) else (if 0 ≤ (Int.tmod (wrap64 ((wrap64 (t474 * 256)) + t476)) (t471.length : Int)) then (if (Int.tmod (wrap64 ((wrap64 (t474 * 256)) + t476)) (t471.length : Int)) < (t471.length : Int) then ((spec_l1Rd_pick.f kj2 s0_0 t477 3).bind fun bt479 => (if bt479.1 = 0 then ((spec_l1Near.f kj2 (rdOf ByteArray.empty t471 (Int.tmod (wrap64 ((wrap64 (t474 * 256)) + t476)) (t471.length : Int)))).bind fun t481 => ((spec_l1Rd_pick.f kj2 s0_0 bt479.2 256).bind fun bt484 => ((spec_l1Rd_pick.f kj2 s0_0 bt484.2 256).bind fun bt486 => (if (t481.length : Int) = 0 then (none) else (if 0 ≤ (Int.tmod (wrap64 ((wrap64 (bt484.1 * 256)) + bt486.1)) (t481.length : Int)) then (if (Int.tmod (wrap64 ((wrap64 (bt484.1 * 256)) + bt486.1)) (t481.length : Int)) < (t481.length : Int) then (some (rdOf ByteArray.empty t481 (Int.tmod (wrap64 ((wrap64 (bt484.1 * 256)) + bt486.1)) (t481.length : Int)), bt486.2)) else (none)) else (none)))))) else (some (rdOf ByteArray.empty t471 (Int.tmod (wrap64 ((wrap64 (t474 * 256)) + t476)) (t471.length : Int)), bt479.2)))) else (none)) else (none))) = some (r1, r2) := H; have A11 := Aside0.mk A110; clear A110
    replace H := iq H; obtain ⟨c12, H⟩ := H
    have c12b0 : ((t471.length : Int) == 0) = false := beq_eq_false_iff_ne.mpr c12
    have c12b1 : ((t471.length : Int) != 0) = true := bne_iff_ne.mpr c12
    have c12b2 : ¬ (t471 = []) := fun h_ => c12 (by rw [h_]; rfl)
    obtain ⟨ji13, hji13⟩ : ∃ j_ : Int, (Int.tmod (wrap64 ((wrap64 (t474 * 256)) + t476)) (t471.length : Int)) = j_ := ⟨_, rfl⟩
    replace H : (if 0 ≤ (ji13) then (if (ji13) < (t471.length : Int) then ((spec_l1Rd_pick.f kj2 s0_0 t477 3).bind fun bt479 => (if bt479.1 = 0 then ((spec_l1Near.f kj2 (rdOf ByteArray.empty t471 (ji13))).bind fun t481 => ((spec_l1Rd_pick.f kj2 s0_0 bt479.2 256).bind fun bt484 => ((spec_l1Rd_pick.f kj2 s0_0 bt484.2 256).bind fun bt486 => (if (t481.length : Int) = 0 then (none) else (if 0 ≤ (Int.tmod (wrap64 ((wrap64 (bt484.1 * 256)) + bt486.1)) (t481.length : Int)) then (if (Int.tmod (wrap64 ((wrap64 (bt484.1 * 256)) + bt486.1)) (t481.length : Int)) < (t481.length : Int) then (some (rdOf ByteArray.empty t481 (Int.tmod (wrap64 ((wrap64 (bt484.1 * 256)) + bt486.1)) (t481.length : Int)), bt486.2)) else (none)) else (none)))))) else (some (rdOf ByteArray.empty t471 (ji13), bt479.2)))) else (none)) else (none)) = some (r1, r2) := by first | (rw [hji13] at H; exact H) | (simp only [hji13] at H ⊢; exact H)
    (try rw [hji13] at A9)
    (try rw [hji13] at A10)
    (try rw [hji13] at A11)
    replace H := it H; obtain ⟨c14b0, H⟩ := H
    replace H := it H; obtain ⟨c15b0, H⟩ := H; replace H := bs H; obtain ⟨⟨t479, t480⟩, A160, H⟩ := H; replace H : (if t479 = 0 then ((spec_l1Near.f kj2 (rdOf ByteArray.empty t471 (ji13))).bind fun t481 => ((spec_l1Rd_pick.f kj2 s0_0 t480 256).bind fun bt484 => ((spec_l1Rd_pick.f kj2 s0_0 bt484.2 256).bind fun bt486 => (if (t481.length : Int) = 0 then (none) else (if 0 ≤ (Int.tmod (wrap64 ((wrap64 (bt484.1 * 256)) + bt486.1)) (t481.length : Int)) then (if (Int.tmod (wrap64 ((wrap64 (bt484.1 * 256)) + bt486.1)) (t481.length : Int)) < (t481.length : Int) then (some (rdOf ByteArray.empty t481 (Int.tmod (wrap64 ((wrap64 (bt484.1 * 256)) + bt486.1)) (t481.length : Int)), bt486.2)) else (none)) else (none)))))) else (some (rdOf ByteArray.empty t471 (ji13), t480))) = some (r1, r2) := H; have A16 := Aside0.mk A160; clear A160
    by_cases c17 : t479 = 0
    ·rw [if_pos c17] at H
     have c17b0 : (t479 == 0) = true := beq_iff_eq.mpr c17
     have c17b1 : (t479 != 0) = false := bne_eq_false_iff_eq.mpr c17
     clear c17; replace H := bs H; obtain ⟨t481, A180, H⟩ := H; replace H : ((spec_l1Rd_pick.f kj2 s0_0 t480 256).bind fun bt484 => ((spec_l1Rd_pick.f kj2 s0_0 bt484.2 256).bind fun bt486 => (if (t481.length : Int) = 0 then (none) else (if 0 ≤ (Int.tmod (wrap64 ((wrap64 (bt484.1 * 256)) + bt486.1)) (t481.length : Int)) then (if (Int.tmod (wrap64 ((wrap64 (bt484.1 * 256)) + bt486.1)) (t481.length : Int)) < (t481.length : Int) then (some (rdOf ByteArray.empty t481 (Int.tmod (wrap64 ((wrap64 (bt484.1 * 256)) + bt486.1)) (t481.length : Int)), bt486.2)) else (none)) else (none))))) = some (r1, r2) := H; have A18 := Aside0.mk A180; clear A180; replace H := bs H; obtain ⟨⟨t484, t485⟩, A190, H⟩ := H; replace H : ((spec_l1Rd_pick.f kj2 s0_0 t485 256).bind fun bt486 => (if (t481.length : Int) = 0 then (none) else (if 0 ≤ (Int.tmod (wrap64 ((wrap64 (t484 * 256)) + bt486.1)) (t481.length : Int)) then (if (Int.tmod (wrap64 ((wrap64 (t484 * 256)) + bt486.1)) (t481.length : Int)) < (t481.length : Int) then (some (rdOf ByteArray.empty t481 (Int.tmod (wrap64 ((wrap64 (t484 * 256)) + bt486.1)) (t481.length : Int)), bt486.2)) else (none)) else (none)))) = some (r1, r2) := H; have A19 := Aside0.mk A190; clear A190; replace H := bs H; obtain ⟨⟨t486, t487⟩, A200, H⟩ := H; replace H : (if (t481.length : Int) = 0 then (none) else (if 0 ≤ (Int.tmod (wrap64 ((wrap64 (t484 * 256)) + t486)) (t481.length : Int)) then (if (Int.tmod (wrap64 ((wrap64 (t484 * 256)) + t486)) (t481.length : Int)) < (t481.length : Int) then (some (rdOf ByteArray.empty t481 (Int.tmod (wrap64 ((wrap64 (t484 * 256)) + t486)) (t481.length : Int)), t487)) else (none)) else (none))) = some (r1, r2) := H; have A20 := Aside0.mk A200; clear A200
     replace H := iq H; obtain ⟨c21, H⟩ := H
     have c21b0 : ((t481.length : Int) == 0) = false := beq_eq_false_iff_ne.mpr c21
     have c21b1 : ((t481.length : Int) != 0) = true := bne_iff_ne.mpr c21
     have c21b2 : ¬ (t481 = []) := fun h_ => c21 (by rw [h_]; rfl)
     obtain ⟨ji22, hji22⟩ : ∃ j_ : Int, (Int.tmod (wrap64 ((wrap64 (t484 * 256)) + t486)) (t481.length : Int)) = j_ := ⟨_, rfl⟩
     replace H : (if 0 ≤ (ji22) then (if (ji22) < (t481.length : Int) then (some (rdOf ByteArray.empty t481 (ji22), t487)) else (none)) else (none)) = some (r1, r2) := by first | (rw [hji22] at H; exact H) | (simp only [hji22] at H ⊢; exact H)
     (try rw [hji22] at A9)
     (try rw [hji22] at A10)
     (try rw [hji22] at A11)
     (try rw [hji22] at A16)
     (try rw [hji22] at A18)
     (try rw [hji22] at A19)
     (try rw [hji22] at A20)
     replace H := it H; obtain ⟨c23b0, H⟩ := H
     replace H := it H; obtain ⟨c24b0, H⟩ := H
     simp only [Option.some.injEq, Prod.mk.injEq] at H
     obtain ⟨rfl, rfl⟩ := H
     go_wp2_with (first | ((with_reducible refine gate_callee (f := 70) rfl ?_); refine goesL_ (some 14) rfl rfl Try.func70 (by kernel_rfl) rfl #[.string a1] rfl mq ?_; (with_reducible refine (spec_l1Near.calls kj2 a1 t471 _ A9.out).mono ?_); rintro e w25 ⟨v472, rfl, ho0, hb⟩; refine ⟨_, rfl, ?_⟩; have HO473 := am (Kd.R_lower ho0 (keep_size (w := w) (g := g) (row := none) b0_)); replace HK := am (KeepBut.trans b0_ (KeepBut.of_below hb g none) (.inl rfl)); replace HB := am (below_step b1_ hb); replace HI0 := am (IsS127.below b2_ hb); (try clear hb); (try clear hb2); (try clear hk); (try clear hi); (try clear ho0)) | ((with_reducible refine gate_callee (f := 67) rfl ?_); refine goesL_ (some 17) rfl rfl Try.func67 (by kernel_rfl) rfl #[.pointer (some ⟨g, 0, none⟩), .int .i64 256] rfl mq ?_; (with_reducible refine (spec_l1Rd_pick.calls kj2 g s0_0 x1001_2 256 t474 t475 w0 _ ?side1 ?side2 A10.out).mono ?_); (case side1 => repeat (first | (with_reducible first | exact HI0.out | apply IsS127.alloc | apply IsS127.drewN | apply IsS127.drew | apply IsS127.set_1) | exact HI0.out)); (case side2 => repeat (first | (with_reducible first | exact HB.out | apply below_alloc | apply pw_below_drewN | apply below_drew1 | refine below_set ?_ (IsS127.ge HI0.out)) | exact HB.out)); rintro e w26 ⟨rfl, hi, hb, hk⟩; refine ⟨_, rfl, ?_⟩; replace HO473 := am (Kd.R_mono (Kd.R_keep (IsS127.apart (show IsS127 w0 _ g s0_0 x1001_2 from by repeat (first | (with_reducible first | exact HI0.out | apply IsS127.alloc | apply IsS127.drewN | apply IsS127.drew | apply IsS127.set_1) | exact HI0.out)) (rq HO473.out) (by decide)) hk (fun _ h => h.2)) (fun _ h => h.1)); replace HK := am (KeepBut.trans b0_ hk (.inl rfl)); replace HB := am (hb); replace HI0 := am (hi); (try clear hb); (try clear hb2); (try clear hk); (try clear hi)) | ((with_reducible refine gate_callee (f := 67) rfl ?_); refine goesL_ (some 20) rfl rfl Try.func67 (by kernel_rfl) rfl #[.pointer (some ⟨g, 0, none⟩), .int .i64 256] rfl mq ?_; (with_reducible refine (spec_l1Rd_pick.calls kj2 g s0_0 t475 256 t476 t477 w0 _ ?side1 ?side2 A11.out).mono ?_); (case side1 => repeat (first | (with_reducible first | exact HI0.out | apply IsS127.alloc | apply IsS127.drewN | apply IsS127.drew | apply IsS127.set_1) | exact HI0.out)); (case side2 => repeat (first | (with_reducible first | exact HB.out | apply below_alloc | apply pw_below_drewN | apply below_drew1 | refine below_set ?_ (IsS127.ge HI0.out)) | exact HB.out)); rintro e w27 ⟨rfl, hi, hb, hk⟩; refine ⟨_, rfl, ?_⟩; replace HO473 := am (Kd.R_mono (Kd.R_keep (IsS127.apart (show IsS127 w0 _ g s0_0 t475 from by repeat (first | (with_reducible first | exact HI0.out | apply IsS127.alloc | apply IsS127.drewN | apply IsS127.drew | apply IsS127.set_1) | exact HI0.out)) (rq HO473.out) (by decide)) hk (fun _ h => h.2)) (fun _ h => h.1)); replace HK := am (KeepBut.trans b0_ hk (.inl rfl)); replace HB := am (hb); replace HI0 := am (hi); (try clear hb); (try clear hb2); (try clear hk); (try clear hi); obtain ⟨Ao28, co28, eo28⟩ := Kd.R_slice HO473.out; subst eo28; have p478 : 0 ≤ ((ji13) : Int) := of_decide_eq_true ad; have q478 : (ji13) < (t471.length : Int) := of_decide_eq_true ad; obtain ⟨ad478, e478, hx478_0⟩ := Kd.at_string (Kd.R_reads' HO473.out).2.2 (ji13) p478 q478; cases e478; replace p478 := eq_true p478; replace q478 := eq_true q478) | ((with_reducible refine gate_callee (f := 67) rfl ?_); refine goesL_ (some 28) rfl rfl Try.func67 (by kernel_rfl) rfl #[.pointer (some ⟨g, 0, none⟩), .int .i64 3] rfl mq ?_; (with_reducible refine (spec_l1Rd_pick.calls kj2 g s0_0 t477 3 t479 t480 w0 _ ?side1 ?side2 A16.out).mono ?_); (case side1 => repeat (first | (with_reducible first | exact HI0.out | apply IsS127.alloc | apply IsS127.drewN | apply IsS127.drew | apply IsS127.set_1) | exact HI0.out)); (case side2 => repeat (first | (with_reducible first | exact HB.out | apply below_alloc | apply pw_below_drewN | apply below_drew1 | refine below_set ?_ (IsS127.ge HI0.out)) | exact HB.out)); rintro e w29 ⟨rfl, hi, hb, hk⟩; refine ⟨_, rfl, ?_⟩; replace HO473 := am (Kd.R_mono (Kd.R_keep (IsS127.apart (show IsS127 w0 _ g s0_0 t477 from by repeat (first | (with_reducible first | exact HI0.out | apply IsS127.alloc | apply IsS127.drewN | apply IsS127.drew | apply IsS127.set_1) | exact HI0.out)) (rq HO473.out) (by decide)) hk (fun _ h => h.2)) (fun _ h => h.1)); replace HK := am (KeepBut.trans b0_ hk (.inl rfl)); replace HB := am (hb); replace HI0 := am (hi); (try clear hb); (try clear hb2); (try clear hk); (try clear hi)) | ((with_reducible refine gate_callee (f := 70) rfl ?_); refine goesL_ (some 31) rfl rfl Try.func70 (by kernel_rfl) rfl #[.string (rdOf ByteArray.empty t471 (ji13))] rfl (by (try simp only [List.map_toArray, List.map_cons, List.map_nil]); first | done | (simp only [hji13]; rfl) | rfl | (simp only [List.length_drop, List.length_take]; rfl)) ?_; (with_reducible refine (spec_l1Near.calls kj2 (rdOf ByteArray.empty t471 (ji13)) t481 _ A18.out).mono ?_); rintro e w30 ⟨v482, rfl, ho0, hb⟩; refine ⟨_, rfl, ?_⟩; have HO483 := am (Kd.R_lower (Kd.R_new' ho0 (Kd.R_lt (rq HO473.out))) (keep_size (w := w) (g := g) (row := none) b0_)); replace HO473 := am (Kd.R_elder' (rq HO473.out) (Kd.R_base ho0) hb); replace HK := am (KeepBut.trans b0_ (KeepBut.of_below hb g none) (.inl rfl)); replace HB := am (below_step b1_ hb); replace HI0 := am (IsS127.below b2_ hb); (try clear hb); (try clear hb2); (try clear hk); (try clear hi); (try clear ho0)) | ((with_reducible refine gate_callee (f := 67) rfl ?_); refine goesL_ (some 34) rfl rfl Try.func67 (by kernel_rfl) rfl #[.pointer (some ⟨g, 0, none⟩), .int .i64 256] rfl mq ?_; (with_reducible refine (spec_l1Rd_pick.calls kj2 g s0_0 t480 256 t484 t485 w0 _ ?side1 ?side2 A19.out).mono ?_); (case side1 => repeat (first | (with_reducible first | exact HI0.out | apply IsS127.alloc | apply IsS127.drewN | apply IsS127.drew | apply IsS127.set_1) | exact HI0.out)); (case side2 => repeat (first | (with_reducible first | exact HB.out | apply below_alloc | apply pw_below_drewN | apply below_drew1 | refine below_set ?_ (IsS127.ge HI0.out)) | exact HB.out)); rintro e w31 ⟨rfl, hi, hb, hk⟩; refine ⟨_, rfl, ?_⟩; replace HO473 := am (Kd.R_mono (Kd.R_keep (IsS127.apart (show IsS127 w0 _ g s0_0 t480 from by repeat (first | (with_reducible first | exact HI0.out | apply IsS127.alloc | apply IsS127.drewN | apply IsS127.drew | apply IsS127.set_1) | exact HI0.out)) (rq HO473.out) (by decide)) hk (fun _ h => h.2)) (fun _ h => h.1)); replace HO483 := am (Kd.R_mono (Kd.R_keep (IsS127.apart (show IsS127 w0 _ g s0_0 t480 from by repeat (first | (with_reducible first | exact HI0.out | apply IsS127.alloc | apply IsS127.drewN | apply IsS127.drew | apply IsS127.set_1) | exact HI0.out)) (rq HO483.out) (by decide)) hk (fun _ h => h.2)) (fun _ h => h.1)); replace HK := am (KeepBut.trans b0_ hk (.inl rfl)); replace HB := am (hb); replace HI0 := am (hi); (try clear hb); (try clear hb2); (try clear hk); (try clear hi)) | ((with_reducible refine gate_callee (f := 67) rfl ?_); refine goesL_ (some 37) rfl rfl Try.func67 (by kernel_rfl) rfl #[.pointer (some ⟨g, 0, none⟩), .int .i64 256] rfl mq ?_; (with_reducible refine (spec_l1Rd_pick.calls kj2 g s0_0 t485 256 t486 t487 w0 _ ?side1 ?side2 A20.out).mono ?_); (case side1 => repeat (first | (with_reducible first | exact HI0.out | apply IsS127.alloc | apply IsS127.drewN | apply IsS127.drew | apply IsS127.set_1) | exact HI0.out)); (case side2 => repeat (first | (with_reducible first | exact HB.out | apply below_alloc | apply pw_below_drewN | apply below_drew1 | refine below_set ?_ (IsS127.ge HI0.out)) | exact HB.out)); rintro e w32 ⟨rfl, hi, hb, hk⟩; refine ⟨_, rfl, ?_⟩; replace HO473 := am (Kd.R_mono (Kd.R_keep (IsS127.apart (show IsS127 w0 _ g s0_0 t485 from by repeat (first | (with_reducible first | exact HI0.out | apply IsS127.alloc | apply IsS127.drewN | apply IsS127.drew | apply IsS127.set_1) | exact HI0.out)) (rq HO473.out) (by decide)) hk (fun _ h => h.2)) (fun _ h => h.1)); replace HO483 := am (Kd.R_mono (Kd.R_keep (IsS127.apart (show IsS127 w0 _ g s0_0 t485 from by repeat (first | (with_reducible first | exact HI0.out | apply IsS127.alloc | apply IsS127.drewN | apply IsS127.drew | apply IsS127.set_1) | exact HI0.out)) (rq HO483.out) (by decide)) hk (fun _ h => h.2)) (fun _ h => h.1)); replace HK := am (KeepBut.trans b0_ hk (.inl rfl)); replace HB := am (hb); replace HI0 := am (hi); (try clear hb); (try clear hb2); (try clear hk); (try clear hi); obtain ⟨Ao33, co33, eo33⟩ := Kd.R_slice HO483.out; subst eo33; have p488 : 0 ≤ ((ji22) : Int) := of_decide_eq_true ad; have q488 : (ji22) < (t481.length : Int) := of_decide_eq_true ad; obtain ⟨ad488, e488, hx488_0⟩ := Kd.at_string (Kd.R_reads' HO483.out).2.2 (ji22) p488 q488; cases e488; replace p488 := eq_true p488; replace q488 := eq_true q488))
     go_ret
     exact ⟨by first | rfl | (simp [errW_none, errW_some] <;> rfl) | (simp only [← hji13, ← hji22]; first | rfl | (simp [errW_none, errW_some] <;> rfl)) | (simp [*, errW_none, errW_some] <;> rfl), b2_, b1_, b0_⟩
    rw [if_neg c17] at H
    have c17b0 : (t479 == 0) = false := beq_eq_false_iff_ne.mpr c17
    have c17b1 : (t479 != 0) = true := bne_iff_ne.mpr c17
    simp only [Option.some.injEq, Prod.mk.injEq] at H
    obtain ⟨rfl, rfl⟩ := H
    go_wp2_with (first | ((with_reducible refine gate_callee (f := 70) rfl ?_); refine goesL_ (some 14) rfl rfl Try.func70 (by kernel_rfl) rfl #[.string a1] rfl mq ?_; (with_reducible refine (spec_l1Near.calls kj2 a1 t471 _ A9.out).mono ?_); rintro e w34 ⟨v472, rfl, ho0, hb⟩; refine ⟨_, rfl, ?_⟩; have HO473 := am (Kd.R_lower ho0 (keep_size (w := w) (g := g) (row := none) b0_)); replace HK := am (KeepBut.trans b0_ (KeepBut.of_below hb g none) (.inl rfl)); replace HB := am (below_step b1_ hb); replace HI0 := am (IsS127.below b2_ hb); (try clear hb); (try clear hb2); (try clear hk); (try clear hi); (try clear ho0)) | ((with_reducible refine gate_callee (f := 67) rfl ?_); refine goesL_ (some 17) rfl rfl Try.func67 (by kernel_rfl) rfl #[.pointer (some ⟨g, 0, none⟩), .int .i64 256] rfl mq ?_; (with_reducible refine (spec_l1Rd_pick.calls kj2 g s0_0 x1001_2 256 t474 t475 w0 _ ?side1 ?side2 A10.out).mono ?_); (case side1 => repeat (first | (with_reducible first | exact HI0.out | apply IsS127.alloc | apply IsS127.drewN | apply IsS127.drew | apply IsS127.set_1) | exact HI0.out)); (case side2 => repeat (first | (with_reducible first | exact HB.out | apply below_alloc | apply pw_below_drewN | apply below_drew1 | refine below_set ?_ (IsS127.ge HI0.out)) | exact HB.out)); rintro e w35 ⟨rfl, hi, hb, hk⟩; refine ⟨_, rfl, ?_⟩; replace HO473 := am (Kd.R_mono (Kd.R_keep (IsS127.apart (show IsS127 w0 _ g s0_0 x1001_2 from by repeat (first | (with_reducible first | exact HI0.out | apply IsS127.alloc | apply IsS127.drewN | apply IsS127.drew | apply IsS127.set_1) | exact HI0.out)) (rq HO473.out) (by decide)) hk (fun _ h => h.2)) (fun _ h => h.1)); replace HK := am (KeepBut.trans b0_ hk (.inl rfl)); replace HB := am (hb); replace HI0 := am (hi); (try clear hb); (try clear hb2); (try clear hk); (try clear hi)) | ((with_reducible refine gate_callee (f := 67) rfl ?_); refine goesL_ (some 20) rfl rfl Try.func67 (by kernel_rfl) rfl #[.pointer (some ⟨g, 0, none⟩), .int .i64 256] rfl mq ?_; (with_reducible refine (spec_l1Rd_pick.calls kj2 g s0_0 t475 256 t476 t477 w0 _ ?side1 ?side2 A11.out).mono ?_); (case side1 => repeat (first | (with_reducible first | exact HI0.out | apply IsS127.alloc | apply IsS127.drewN | apply IsS127.drew | apply IsS127.set_1) | exact HI0.out)); (case side2 => repeat (first | (with_reducible first | exact HB.out | apply below_alloc | apply pw_below_drewN | apply below_drew1 | refine below_set ?_ (IsS127.ge HI0.out)) | exact HB.out)); rintro e w36 ⟨rfl, hi, hb, hk⟩; refine ⟨_, rfl, ?_⟩; replace HO473 := am (Kd.R_mono (Kd.R_keep (IsS127.apart (show IsS127 w0 _ g s0_0 t475 from by repeat (first | (with_reducible first | exact HI0.out | apply IsS127.alloc | apply IsS127.drewN | apply IsS127.drew | apply IsS127.set_1) | exact HI0.out)) (rq HO473.out) (by decide)) hk (fun _ h => h.2)) (fun _ h => h.1)); replace HK := am (KeepBut.trans b0_ hk (.inl rfl)); replace HB := am (hb); replace HI0 := am (hi); (try clear hb); (try clear hb2); (try clear hk); (try clear hi); obtain ⟨Ao37, co37, eo37⟩ := Kd.R_slice HO473.out; subst eo37; have p478 : 0 ≤ ((ji13) : Int) := of_decide_eq_true ad; have q478 : (ji13) < (t471.length : Int) := of_decide_eq_true ad; obtain ⟨ad478, e478, hx478_0⟩ := Kd.at_string (Kd.R_reads' HO473.out).2.2 (ji13) p478 q478; cases e478; replace p478 := eq_true p478; replace q478 := eq_true q478) | ((with_reducible refine gate_callee (f := 67) rfl ?_); refine goesL_ (some 28) rfl rfl Try.func67 (by kernel_rfl) rfl #[.pointer (some ⟨g, 0, none⟩), .int .i64 3] rfl mq ?_; (with_reducible refine (spec_l1Rd_pick.calls kj2 g s0_0 t477 3 t479 t480 w0 _ ?side1 ?side2 A16.out).mono ?_); (case side1 => repeat (first | (with_reducible first | exact HI0.out | apply IsS127.alloc | apply IsS127.drewN | apply IsS127.drew | apply IsS127.set_1) | exact HI0.out)); (case side2 => repeat (first | (with_reducible first | exact HB.out | apply below_alloc | apply pw_below_drewN | apply below_drew1 | refine below_set ?_ (IsS127.ge HI0.out)) | exact HB.out)); rintro e w38 ⟨rfl, hi, hb, hk⟩; refine ⟨_, rfl, ?_⟩; replace HO473 := am (Kd.R_mono (Kd.R_keep (IsS127.apart (show IsS127 w0 _ g s0_0 t477 from by repeat (first | (with_reducible first | exact HI0.out | apply IsS127.alloc | apply IsS127.drewN | apply IsS127.drew | apply IsS127.set_1) | exact HI0.out)) (rq HO473.out) (by decide)) hk (fun _ h => h.2)) (fun _ h => h.1)); replace HK := am (KeepBut.trans b0_ hk (.inl rfl)); replace HB := am (hb); replace HI0 := am (hi); (try clear hb); (try clear hb2); (try clear hk); (try clear hi)))
    go_ret
    exact ⟨by first | rfl | (simp [errW_none, errW_some] <;> rfl) | (simp only [← hji13]; first | rfl | (simp [errW_none, errW_some] <;> rfl)) | (simp [*, errW_none, errW_some] <;> rfl), b2_, b1_, b0_⟩
   replace c8 := Bool.eq_false_iff.mpr c8; subst c8
   have H1 : ((spec_l13AnyWord.f kj2 s0_0 x1001_2).bind fun bt489 => (some (bt489.1, bt489.2))) = some (r1, r2) := b7_
   replace H := H1; clear H1
   replace H := bs H; obtain ⟨⟨t489, t490⟩, A390, H⟩ := H; replace H : (some (t489, t490)) = some (r1, r2) := H; have A39 := Aside0.mk A390; clear A390
   simp only [Option.some.injEq, Prod.mk.injEq] at H
   obtain ⟨rfl, rfl⟩ := H
   go_wp2_with (first | ((with_reducible refine gate_callee (f := 66) rfl ?_); refine goesL_ (some 46) rfl rfl Try.func66 (by kernel_rfl) rfl #[.pointer (some ⟨g, 0, none⟩)] rfl mq ?_; (with_reducible refine (spec_l13AnyWord.calls kj2 g s0_0 x1001_2 t489 t490 w0 _ ?side1 ?side2 A39.out).mono ?_); (case side1 => repeat (first | (with_reducible first | exact HI0.out | apply IsS127.alloc | apply IsS127.drewN | apply IsS127.drew | apply IsS127.set_1) | exact HI0.out)); (case side2 => repeat (first | (with_reducible first | exact HB.out | apply below_alloc | apply pw_below_drewN | apply below_drew1 | refine below_set ?_ (IsS127.ge HI0.out)) | exact HB.out)); rintro e w40 ⟨rfl, hi, hb, hk⟩; refine ⟨_, rfl, ?_⟩; replace HK := am (KeepBut.trans b0_ hk (.inl rfl)); replace HB := am (hb); replace HI0 := am (hi); (try clear hb); (try clear hb2); (try clear hk); (try clear hi)))
   go_ret
   exact ⟨eq_, b2_, b1_, b0_⟩

/-! ### spec_DrawGuesses: function 20 -/
def spec_DrawGuesses.j0 : Nat → List ByteArray → ByteArray → Bool → List Int → Int → Option (List ByteArray × ByteArray × Int)
 | 0, _, _, _, _, _ => none
 | k + 1, x6, x7, x21, x494000, x494001 => if x21 = true then ((spec_l1Rd_pick.f k x494000 x494001 (x6.length : Int)).bind fun bt502 => (if 0 ≤ bt502.1 then (if bt502.1 < (x6.length : Int) then ((spec_l13Other.f k x494000 bt502.2 (rdOf ByteArray.empty x6 bt502.1)).bind fun bt505 => ((spec_l1Rd_pick.f k x494000 bt505.2 5).bind fun bt507 => (some (x6, bt505.1, wrap64 (bt507.1 - 1))))) else (none)) else (none))) else ((spec_l1Rd_pick.f k x494000 x494001 5).bind fun bt509 => (some (x6, x7, wrap64 (bt509.1 - 1))))
def spec_DrawGuesses.f (k : Nat) (l0 : List Int) : Option (List ByteArray × ByteArray × Int) := (spec_l1Open.f l0).bind fun bt491 => ((spec_l13AnyWords.f k bt491.1 bt491.2).bind fun bt494 => ((spec_l13AnyWord.f k bt491.1 bt494.2).bind fun bt498 => (if (bt494.1.length : Int) > 0 then ((spec_l1Rd_pick.f k bt491.1 bt498.2 2).bind fun bt500 => (spec_DrawGuesses.j0 k bt494.1 bt498.1 (bt500.1 == 0) bt491.1 bt500.2)) else (spec_DrawGuesses.j0 k bt494.1 bt498.1 false bt491.1 bt498.2))))
theorem spec_DrawGuesses.calls (k : Nat) (A0 : Option Addr) (c0 : Nat) (l0 : List Int) (r1 : List ByteArray) (r2 : ByteArray) (r3 : Int) (w : World) (hr0 : Kd.C (Kd.int .u8) w A0 l0.length l0) (hc0 : l0.length ≤ c0) (h : spec_DrawGuesses.f k l0 = some (r1, r2, r3)) :
  Calls Try.prog 20 #[.slice A0 l0.length c0] w fun e w' => ∃ v0_ : Value, e = .returned (.tuple #[v0_, .string r2, .int .i64 r3]) ∧ Kd.R Kd.string 9 w' w.heap.size (fun _ => True) v0_ r1 ∧ Below w.heap.size w w' := by
 have HR0 := am hr0; have HC0 := am hc0; clear hr0 hc0; have HB := am (Below.refl w.heap.size w)
 have H : ((spec_l1Open.f l0).bind fun bt491 => ((spec_l13AnyWords.f k bt491.1 bt491.2).bind fun bt494 => ((spec_l13AnyWord.f k bt491.1 bt494.2).bind fun bt498 => (if (bt494.1.length : Int) > 0 then ((spec_l1Rd_pick.f k bt491.1 bt498.2 2).bind fun bt500 => (spec_DrawGuesses.j0 k bt494.1 bt498.1 (bt500.1 == 0) bt491.1 bt500.2)) else (spec_DrawGuesses.j0 k bt494.1 bt498.1 false bt491.1 bt498.2))))) = some (r1, r2, r3) := h
 clear h; replace H := bs H; obtain ⟨⟨t491, t492⟩, A20, H⟩ := H; replace H : ((spec_l13AnyWords.f k t491 t492).bind fun bt494 => ((spec_l13AnyWord.f k t491 bt494.2).bind fun bt498 => (if (bt494.1.length : Int) > 0 then ((spec_l1Rd_pick.f k t491 bt498.2 2).bind fun bt500 => (spec_DrawGuesses.j0 k bt494.1 bt498.1 (bt500.1 == 0) t491 bt500.2)) else (spec_DrawGuesses.j0 k bt494.1 bt498.1 false t491 bt498.2)))) = some (r1, r2, r3) := H; have A2 := Aside0.mk A20; clear A20; replace H := bs H; obtain ⟨⟨t494, t497⟩, A30, H⟩ := H; replace H : ((spec_l13AnyWord.f k t491 t497).bind fun bt498 => (if (t494.length : Int) > 0 then ((spec_l1Rd_pick.f k t491 bt498.2 2).bind fun bt500 => (spec_DrawGuesses.j0 k t494 bt498.1 (bt500.1 == 0) t491 bt500.2)) else (spec_DrawGuesses.j0 k t494 bt498.1 false t491 bt498.2))) = some (r1, r2, r3) := H; have A3 := Aside0.mk A30; clear A30; replace H := bs H; obtain ⟨⟨t498, t499⟩, A40, H⟩ := H; replace H : (if (t494.length : Int) > 0 then ((spec_l1Rd_pick.f k t491 t499 2).bind fun bt500 => (spec_DrawGuesses.j0 k t494 t498 (bt500.1 == 0) t491 bt500.2)) else (spec_DrawGuesses.j0 k t494 t498 false t491 t499)) = some (r1, r2, r3) := H; have A4 := Aside0.mk A40; clear A40; have HC5 := am H; clear H; go_enter Try.func20, Try.ntmps20
 go_upto_region 4 with (first | ((with_reducible refine gate_callee (f := 64) rfl ?_); refine goesL_ (some 9) rfl rfl Try.func64 (by kernel_rfl) rfl #[.slice A0 l0.length c0] rfl mq ?_; (with_reducible refine (spec_l1Open.calls _ _ l0 t491 t492 w _ ?side1 ?side2 ?side3 A2.out).mono ?_); (case side1 => repeat (first | (with_reducible first | exact HB.out | apply below_alloc | apply pw_below_drewN | apply below_drew1) | exact HB.out)); (case side2 => exact HR0.out); (case side3 => exact HC0.out); rintro e w6 ⟨g493, rfl, hi, hb, hb2⟩; refine ⟨_, rfl, ?_⟩; replace HB := am (hb); have HI493 := am (hi); (try clear hb); (try clear hb2); (try clear hk); (try clear hi)) | ((with_reducible refine gate_callee (f := 65) rfl ?_); refine goesL_ (some 11) rfl rfl Try.func65 (by kernel_rfl) rfl #[.pointer (some ⟨g493, 0, none⟩)] rfl mq ?_; (with_reducible refine (spec_l13AnyWords.calls k g493 t491 t492 t494 t497 w _ ?side1 ?side2 A3.out).mono ?_); (case side1 => repeat (first | (with_reducible first | exact HI493.out | apply IsS127.alloc | apply IsS127.drewN | apply IsS127.drew | apply IsS127.set_1) | exact HI493.out)); (case side2 => repeat (first | (with_reducible first | exact HB.out | apply below_alloc | apply pw_below_drewN | apply below_drew1 | refine below_set ?_ (IsS127.ge HI493.out)) | exact HB.out)); rintro e w7 ⟨v495, rfl, ho0, hi, hb, hk⟩; refine ⟨_, rfl, ?_⟩; have HO496 := am (Kd.R_lower ho0 (below_size b26_)); replace HB := am (hb); replace HI493 := am (hi); (try clear hb); (try clear hb2); (try clear hk); (try clear hi); (try clear ho0)) | ((with_reducible refine gate_callee (f := 66) rfl ?_); refine goesL_ (some 13) rfl rfl Try.func66 (by kernel_rfl) rfl #[.pointer (some ⟨g493, 0, none⟩)] rfl mq ?_; (with_reducible refine (spec_l13AnyWord.calls k g493 t491 t497 t498 t499 w _ ?side1 ?side2 A4.out).mono ?_); (case side1 => repeat (first | (with_reducible first | exact HI493.out | apply IsS127.alloc | apply IsS127.drewN | apply IsS127.drew | apply IsS127.set_1) | exact HI493.out)); (case side2 => repeat (first | (with_reducible first | exact HB.out | apply below_alloc | apply pw_below_drewN | apply below_drew1 | refine below_set ?_ (IsS127.ge HI493.out)) | exact HB.out)); rintro e w8 ⟨rfl, hi, hb, hk⟩; refine ⟨_, rfl, ?_⟩; replace HO496 := am (Kd.R_mono (Kd.R_keep (IsS127.apart (show IsS127 w _ g493 t491 t497 from by repeat (first | (with_reducible first | exact HI493.out | apply IsS127.alloc | apply IsS127.drewN | apply IsS127.drew | apply IsS127.set_1) | exact HI493.out)) (rq HO496.out) (by decide)) hk (fun _ h => h.2)) (fun _ h => h.1)); replace HB := am (hb); replace HI493 := am (hi); (try clear hb); (try clear hb2); (try clear hk); (try clear hi)))
 (try simp only [Act.put, List.setIfInBounds_toArray, List.set_cons_zero, List.set_cons_succ])
 go_cut [21] (fun v21 wc => ∃ (kq : Nat) (x21_4 : Bool) (x494001_4 : Int), v21 = .bool x21_4 ∧ Aside0 (spec_DrawGuesses.j0 kq t494 t498 x21_4 t491 x494001_4 = some (r1, r2, r3)) ∧ Aside0 (kq ≤ k) ∧ Aside0 (Kd.R Kd.string 9 wc w.heap.size (fun _ => True) v495 t494) ∧ Aside0 (IsS127 w wc g493 t491 x494001_4) ∧ Aside0 (Below w.heap.size w wc))
 case first =>
  have H := HC5.out; clear HC5
  by_cases c9 : (t494.length : Int) > 0
  ·rw [if_pos c9] at H; have c9b0 := decide_eq_true c9
   have c9b1 : decide (0 < t494.length) = true := decide_eq_true (by omega)
   clear c9
   (first | rw [c9b0] | (simp only [i64_w, i32_w]; rw [c9b0]) | skip)
   replace H := bs H; obtain ⟨⟨t500, t501⟩, A100, H⟩ := H; replace H : (spec_DrawGuesses.j0 k t494 t498 (t500 == 0) t491 t501) = some (r1, r2, r3) := H; have A10 := Aside0.mk A100; clear A100
   have H' := am H
   clear H; obtain ⟨Ao11, co11, eo11⟩ := Kd.R_slice HO496.out; subst eo11
   go_wp2_with (first | (go_at_call 67; (with_reducible refine (spec_l1Rd_pick.calls k g493 t491 t499 2 t500 t501 w _ ?side1 ?side2 A10.out).mono ?_); (case side1 => repeat (first | (with_reducible first | exact HI493.out | apply IsS127.alloc | apply IsS127.drewN | apply IsS127.drew | apply IsS127.set_1) | exact HI493.out)); (case side2 => repeat (first | (with_reducible first | exact HB.out | apply below_alloc | apply pw_below_drewN | apply below_drew1 | refine below_set ?_ (IsS127.ge HI493.out)) | exact HB.out)); rintro e w12 ⟨rfl, hi, hb, hk⟩; replace HO496 := am (Kd.R_mono (Kd.R_keep (IsS127.apart (show IsS127 w _ g493 t491 t499 from by repeat (first | (with_reducible first | exact HI493.out | apply IsS127.alloc | apply IsS127.drewN | apply IsS127.drew | apply IsS127.set_1) | exact HI493.out)) (rq HO496.out) (by decide)) hk (fun _ h => h.2)) (fun _ h => h.1)); replace HB := am (hb); replace HI493 := am (hi); (try clear hb); (try clear hb2); (try clear hk); (try clear hi)))
   go_meet
   case rel => exact ⟨_, ((t500 == 0)), (t501), sq, H', ⟨b46_⟩, ⟨rq HO496.out⟩, ⟨b60_⟩, ⟨b26_⟩⟩
  rw [if_neg c9] at H; have c9b0 := decide_eq_false c9
  have c9b1 : decide (0 < t494.length) = false := decide_eq_false (by omega)
  clear c9
  (first | rw [c9b0] | (simp only [i64_w, i32_w]; rw [c9b0]) | skip)
  have H' := am H
  clear H; obtain ⟨Ao13, co13, eo13⟩ := Kd.R_slice HO496.out; subst eo13; go_wp2
  go_meet
  case rel => exact ⟨_, (false), (t499), sq, H', ⟨b46_⟩, ⟨rq HO496.out⟩, ⟨b60_⟩, ⟨b26_⟩⟩
 case rest =>
  clear HC5; (try clear c2); (try clear p2); (try clear c6); (try clear c9); (try clear c9b0); (try clear c9b1); obtain ⟨kq, x21_4, x494001_4, rfl, HA, HJ4, HO_6, HI493, HB⟩ := hcut
  cases kq with
  | zero => exact absurd HA.out (by simp [spec_DrawGuesses.j0])
  | succ kj4 =>
   have H := HA.out; clear HA
   simp only [spec_DrawGuesses.j0] at H
   by_cases c14 : x21_4 = true
   ·subst c14
    have H1 : ((spec_l1Rd_pick.f kj4 t491 x494001_4 (t494.length : Int)).bind fun bt502 => (if 0 ≤ bt502.1 then (if bt502.1 < (t494.length : Int) then ((spec_l13Other.f kj4 t491 bt502.2 (rdOf ByteArray.empty t494 bt502.1)).bind fun bt505 => ((spec_l1Rd_pick.f kj4 t491 bt505.2 5).bind fun bt507 => (some (t494, bt505.1, wrap64 (bt507.1 - 1))))) else (none)) else (none))) = some (r1, r2, r3) := b19_
    replace H := H1; clear H1
    replace H := bs H; obtain ⟨⟨t502, t503⟩, A150, H⟩ := H; replace H : (if 0 ≤ t502 then (if t502 < (t494.length : Int) then ((spec_l13Other.f kj4 t491 t503 (rdOf ByteArray.empty t494 t502)).bind fun bt505 => ((spec_l1Rd_pick.f kj4 t491 bt505.2 5).bind fun bt507 => (some (t494, bt505.1, wrap64 (bt507.1 - 1))))) else (none)) else (none)) = some (r1, r2, r3) := H; have A15 := Aside0.mk A150; clear A150
    replace H := it H; obtain ⟨c16b0, H⟩ := H
    replace H := it H; obtain ⟨c17b0, H⟩ := H; replace H := bs H; obtain ⟨⟨t505, t506⟩, A180, H⟩ := H; replace H : ((spec_l1Rd_pick.f kj4 t491 t506 5).bind fun bt507 => (some (t494, t505, wrap64 (bt507.1 - 1)))) = some (r1, r2, r3) := H; have A18 := Aside0.mk A180; clear A180; replace H := bs H; obtain ⟨⟨t507, t508⟩, A190, H⟩ := H; replace H : (some (t494, t505, wrap64 (t507 - 1))) = some (r1, r2, r3) := H; have A19 := Aside0.mk A190; clear A190
    simp only [Option.some.injEq, Prod.mk.injEq] at H
    obtain ⟨rfl, rfl, rfl⟩ := H; obtain ⟨Ao20, co20, eo20⟩ := Kd.R_slice HO_6.out; subst eo20
    go_wp2_with (first | ((with_reducible refine gate_callee (f := 67) rfl ?_); refine goesL_ (some 27) rfl rfl Try.func67 (by kernel_rfl) rfl #[.pointer (some ⟨g493, 0, none⟩), .int .i64 (t494.length : Int)] rfl mq ?_; (with_reducible refine (spec_l1Rd_pick.calls kj4 g493 t491 x494001_4 (t494.length : Int) t502 t503 w _ ?side1 ?side2 A15.out).mono ?_); (case side1 => repeat (first | (with_reducible first | exact HI493.out | apply IsS127.alloc | apply IsS127.drewN | apply IsS127.drew | apply IsS127.set_1) | exact HI493.out)); (case side2 => repeat (first | (with_reducible first | exact HB.out | apply below_alloc | apply pw_below_drewN | apply below_drew1 | refine below_set ?_ (IsS127.ge HI493.out)) | exact HB.out)); rintro e w21 ⟨rfl, hi, hb, hk⟩; refine ⟨_, rfl, ?_⟩; replace HO_6 := am (Kd.R_mono (Kd.R_keep (IsS127.apart (show IsS127 w _ g493 t491 x494001_4 from by repeat (first | (with_reducible first | exact HI493.out | apply IsS127.alloc | apply IsS127.drewN | apply IsS127.drew | apply IsS127.set_1) | exact HI493.out)) (rq HO_6.out) (by decide)) hk (fun _ h => h.2)) (fun _ h => h.1)); replace HB := am (hb); replace HI493 := am (hi); (try clear hb); (try clear hb2); (try clear hk); (try clear hi); have p504 : 0 ≤ (t502 : Int) := of_decide_eq_true ad; have q504 : t502 < (t494.length : Int) := of_decide_eq_true ad; obtain ⟨ad504, e504, hx504_0⟩ := Kd.at_string (Kd.R_reads' HO_6.out).2.2 t502 p504 q504; cases e504; replace p504 := eq_true p504; replace q504 := eq_true q504) | ((with_reducible refine gate_callee (f := 68) rfl ?_); refine goesL_ (some 30) rfl rfl Try.func68 (by kernel_rfl) rfl #[.pointer (some ⟨g493, 0, none⟩), .string (rdOf ByteArray.empty t494 t502)] rfl mq ?_; (with_reducible refine (spec_l13Other.calls kj4 g493 t491 t503 (rdOf ByteArray.empty t494 t502) t505 t506 w _ ?side1 ?side2 A18.out).mono ?_); (case side1 => repeat (first | (with_reducible first | exact HI493.out | apply IsS127.alloc | apply IsS127.drewN | apply IsS127.drew | apply IsS127.set_1) | exact HI493.out)); (case side2 => repeat (first | (with_reducible first | exact HB.out | apply below_alloc | apply pw_below_drewN | apply below_drew1 | refine below_set ?_ (IsS127.ge HI493.out)) | exact HB.out)); rintro e w22 ⟨rfl, hi, hb, hk⟩; refine ⟨_, rfl, ?_⟩; replace HO_6 := am (Kd.R_mono (Kd.R_keep (IsS127.apart (show IsS127 w _ g493 t491 t503 from by repeat (first | (with_reducible first | exact HI493.out | apply IsS127.alloc | apply IsS127.drewN | apply IsS127.drew | apply IsS127.set_1) | exact HI493.out)) (rq HO_6.out) (by decide)) hk (fun _ h => h.2)) (fun _ h => h.1)); replace HB := am (hb); replace HI493 := am (hi); (try clear hb); (try clear hb2); (try clear hk); (try clear hi)) | ((with_reducible refine gate_callee (f := 67) rfl ?_); refine goesL_ (some 34) rfl rfl Try.func67 (by kernel_rfl) rfl #[.pointer (some ⟨g493, 0, none⟩), .int .i64 5] rfl mq ?_; (with_reducible refine (spec_l1Rd_pick.calls kj4 g493 t491 t506 5 t507 t508 w _ ?side1 ?side2 A19.out).mono ?_); (case side1 => repeat (first | (with_reducible first | exact HI493.out | apply IsS127.alloc | apply IsS127.drewN | apply IsS127.drew | apply IsS127.set_1) | exact HI493.out)); (case side2 => repeat (first | (with_reducible first | exact HB.out | apply below_alloc | apply pw_below_drewN | apply below_drew1 | refine below_set ?_ (IsS127.ge HI493.out)) | exact HB.out)); rintro e w23 ⟨rfl, hi, hb, hk⟩; refine ⟨_, rfl, ?_⟩; replace HO_6 := am (Kd.R_mono (Kd.R_keep (IsS127.apart (show IsS127 w _ g493 t491 t506 from by repeat (first | (with_reducible first | exact HI493.out | apply IsS127.alloc | apply IsS127.drewN | apply IsS127.drew | apply IsS127.set_1) | exact HI493.out)) (rq HO_6.out) (by decide)) hk (fun _ h => h.2)) (fun _ h => h.1)); replace HB := am (hb); replace HI493 := am (hi); (try clear hb); (try clear hb2); (try clear hk); (try clear hi)))
    go_ret3
    exact ⟨_, eq_, by (with_reducible repeat (first | apply Kd.R_alloc | apply Kd.R_drewN | apply Kd.R_drew)); exact HO_6.out, b26_⟩
   replace c14 := Bool.eq_false_iff.mpr c14; subst c14
   have H1 : ((spec_l1Rd_pick.f kj4 t491 x494001_4 5).bind fun bt509 => (some (t494, t498, wrap64 (bt509.1 - 1)))) = some (r1, r2, r3) := b7_
   replace H := H1; clear H1
   replace H := bs H; obtain ⟨⟨t509, t510⟩, A240, H⟩ := H; replace H : (some (t494, t498, wrap64 (t509 - 1))) = some (r1, r2, r3) := H; have A24 := Aside0.mk A240; clear A240
   simp only [Option.some.injEq, Prod.mk.injEq] at H
   obtain ⟨rfl, rfl, rfl⟩ := H
   go_wp2_with (first | ((with_reducible refine gate_callee (f := 67) rfl ?_); refine goesL_ (some 34) rfl rfl Try.func67 (by kernel_rfl) rfl #[.pointer (some ⟨g493, 0, none⟩), .int .i64 5] rfl mq ?_; (with_reducible refine (spec_l1Rd_pick.calls kj4 g493 t491 x494001_4 5 t509 t510 w _ ?side1 ?side2 A24.out).mono ?_); (case side1 => repeat (first | (with_reducible first | exact HI493.out | apply IsS127.alloc | apply IsS127.drewN | apply IsS127.drew | apply IsS127.set_1) | exact HI493.out)); (case side2 => repeat (first | (with_reducible first | exact HB.out | apply below_alloc | apply pw_below_drewN | apply below_drew1 | refine below_set ?_ (IsS127.ge HI493.out)) | exact HB.out)); rintro e w25 ⟨rfl, hi, hb, hk⟩; refine ⟨_, rfl, ?_⟩; replace HO_6 := am (Kd.R_mono (Kd.R_keep (IsS127.apart (show IsS127 w _ g493 t491 x494001_4 from by repeat (first | (with_reducible first | exact HI493.out | apply IsS127.alloc | apply IsS127.drewN | apply IsS127.drew | apply IsS127.set_1) | exact HI493.out)) (rq HO_6.out) (by decide)) hk (fun _ h => h.2)) (fun _ h => h.1)); replace HB := am (hb); replace HI493 := am (hi); (try clear hb); (try clear hb2); (try clear hk); (try clear hi)))
   go_ret3
   exact ⟨_, eq_, by (with_reducible repeat (first | apply Kd.R_alloc | apply Kd.R_drewN | apply Kd.R_drew)); exact HO_6.out, b26_⟩

/-! ### laws_mdGuesses: function 21 -/
def laws_mdGuesses.l0 : Nat → List (S36) → List (S36) → Int → Option (Bool)
 | 0, _, _, _ => none
 | k + 1, x0, x1, x5 => if x5 < (x0.length : Int) then (if 0 ≤ x5 then (if x5 < (x1.length : Int) then (if (!((((rd_T36 x0 x5).f0).toList) == (((rd_T36 x1 x5).f0).toList)) || (!(((rd_T36 x0 x5).f1) == ((rd_T36 x1 x5).f1)))) = true then (some false) else (laws_mdGuesses.l0 k x0 x1 (wrap64 (x5 + 1)))) else (none)) else (none)) else (some true)
def laws_mdGuesses.f (k : Nat) (l0 : List (S36)) (l1 : List (S36)) : Option (Bool) := if (l0.length : Int) = (l1.length : Int) then (laws_mdGuesses.l0 k l0 l1 0) else (some false)
theorem laws_mdGuesses.calls (k : Nat) (A0 : Option Addr) (c0 : Nat) (l0 : List (S36)) (A1 : Option Addr) (c1 : Nat) (l1 : List (S36)) (r : Bool) (w : World) (hr0 : Kd.C k36 w A0 l0.length l0) (hc0 : l0.length ≤ c0) (hr1 : Kd.C k36 w A1 l1.length l1) (hc1 : l1.length ≤ c1) (h : laws_mdGuesses.f k l0 l1 = some r) :
  Calls Try.prog 21 #[.slice A0 l0.length c0, .slice A1 l1.length c1] w fun e w' => e = .returned (.bool r) ∧ Drawn0 w w' := by
 have hu36 := Try.underlying36; have HR0 := am hr0; have HC0 := am hc0; clear hr0 hc0; have HR1 := am hr1; have HC1 := am hc1; clear hr1 hc1
 have H : (if (l0.length : Int) = (l1.length : Int) then (laws_mdGuesses.l0 k l0 l1 0) else (some false)) = some r := h
 clear h
 by_cases c3 : (l0.length : Int) = (l1.length : Int)
 ·rw [if_pos c3] at H
  have c3b0 : ((l0.length : Int) == (l1.length : Int)) = true := beq_iff_eq.mpr c3
  have c3b1 : ((l0.length : Int) != (l1.length : Int)) = false := bne_eq_false_iff_eq.mpr c3
  have c3b2 : (l0.length == l1.length) = true := by first | simpa using c3 | (simp at c3 ⊢; omega)
  clear c3
  have H' := am H
  clear H; go_enter Try.func21, Try.ntmps21; go_wp2
  repeat (go_quiet (fail); try go_wp2)
  go_loopg [5] k (fun kq v5 w' => ∃ (x5_1 : Int), v5 = .int .i64 x5_1 ∧ Aside0 (laws_mdGuesses.l0 kq l0 l1 x5_1 = some r) ∧ Aside0 (kq ≤ k) ∧ Drawn0 w w')
  case atStart => exact ⟨(0), sq, H', ⟨Nat.le_refl _⟩, dr⟩
  case round =>
   clear H'; (try clear c1); (try clear c2); (try clear p2); (try clear c3); (try clear c3b0); (try clear c3b1); (try clear c3b2); obtain ⟨x5_1, rfl, HA, HK1, ⟨m1, rfl⟩⟩ := hrel
   cases gk with
   | zero => exact absurd HA.out (by simp [laws_mdGuesses.l0])
   | succ k1 =>
    have H := HA.out; clear HA
    simp only [laws_mdGuesses.l0] at H
    by_cases c4 : x5_1 < (l0.length : Int)
    ·rw [if_pos c4] at H; have c4b0 := decide_eq_true c4; clear c4
     replace H := it H; obtain ⟨c5b0, H⟩ := H
     replace H := it H; obtain ⟨c6b0, H⟩ := H
     by_cases c7 : (!((((rd_T36 l0 x5_1).f0).toList) == (((rd_T36 l1 x5_1).f0).toList)) || (!(((rd_T36 l0 x5_1).f1) == ((rd_T36 l1 x5_1).f1)))) = true
     ·rw [if_pos c7] at H
      have c7b0 : (!((((rd_T36 l0 x5_1).f0).toList) == (((rd_T36 l1 x5_1).f0).toList)) || (!(((rd_T36 l0 x5_1).f1) == ((rd_T36 l1 x5_1).f1)))) = true := c7
      clear c7; obtain rfl := Option.some.inj H
      have p511 : 0 ≤ (x5_1 : Int) := of_decide_eq_true ad
      have q511 : x5_1 < (l0.length : Int) := of_decide_eq_true ad
      obtain ⟨ad511, e511, hx511_0, hx511_1⟩ := at_T36 HR0.out x5_1 p511 q511
      cases e511
      replace p511 := eq_true p511; replace q511 := eq_true q511
      have p512 : 0 ≤ (x5_1 : Int) := of_decide_eq_true ad
      have q512 : x5_1 < (l1.length : Int) := of_decide_eq_true ad
      obtain ⟨ad512, e512, hx512_0, hx512_1⟩ := at_T36 HR1.out x5_1 p512 q512
      cases e512
      replace p512 := eq_true p512; replace q512 := eq_true q512; go_wp2
      repeat (go_quiet (fail); try go_wp2)
      go_ret
      exact ⟨sq, dr⟩
     rw [if_neg c7] at H
     have c7b0 : (!((((rd_T36 l0 x5_1).f0).toList) == (((rd_T36 l1 x5_1).f0).toList)) || (!(((rd_T36 l0 x5_1).f1) == ((rd_T36 l1 x5_1).f1)))) = false := by simpa using c7
     clear c7
     have H' := am H
     clear H
     have p511 : 0 ≤ (x5_1 : Int) := of_decide_eq_true ad
     have q511 : x5_1 < (l0.length : Int) := of_decide_eq_true ad
     obtain ⟨ad511, e511, hx511_0, hx511_1⟩ := at_T36 HR0.out x5_1 p511 q511
     cases e511
     replace p511 := eq_true p511; replace q511 := eq_true q511
     have p512 : 0 ≤ (x5_1 : Int) := of_decide_eq_true ad
     have q512 : x5_1 < (l1.length : Int) := of_decide_eq_true ad
     obtain ⟨ad512, e512, hx512_0, hx512_1⟩ := at_T36 HR1.out x5_1 p512 q512
     cases e512
     replace p512 := eq_true p512; replace q512 := eq_true q512; go_wp2
     repeat (go_quiet (fail); try go_wp2)
     go_roundg k1
     case measure => have := HK1.out; omega
     case rel => exact ⟨(wrap64 (x5_1 + 1)), sq, H', ⟨b53_⟩, dr⟩
    rw [if_neg c4] at H; have c4b0 := decide_eq_false c4; clear c4; obtain rfl := Option.some.inj H; go_wp2
    repeat (go_quiet (fail); try go_wp2)
    go_ret
    exact ⟨sq, dr⟩
 rw [if_neg c3] at H
 have c3b0 : ((l0.length : Int) == (l1.length : Int)) = false := beq_eq_false_iff_ne.mpr c3
 have c3b1 : ((l0.length : Int) != (l1.length : Int)) = true := bne_iff_ne.mpr c3
 have c3b2 : (l0.length == l1.length) = false := by first | simpa using c3 | (simp at c3 ⊢; omega)
 obtain rfl := Option.some.inj H; go_enter Try.func21, Try.ntmps21; go_wp2
 repeat (go_quiet (fail); try go_wp2)
 go_ret
 exact ⟨sq, dr⟩

/-! ### laws_mdHas: function 22 -/
def laws_mdHas.l0 : Nat → List ByteArray → ByteArray → Int → Option (Bool)
 | 0, _, _, _ => none
 | k + 1, x0, x1, x5 => if x5 < (x0.length : Int) then (if 0 ≤ x5 then (if (rdOf ByteArray.empty x0 x5).toList = x1.toList then (some true) else (laws_mdHas.l0 k x0 x1 (wrap64 (x5 + 1)))) else (none)) else (some false)
def laws_mdHas.f (k : Nat) (l0 : List ByteArray) (a1 : ByteArray) : Option (Bool) := laws_mdHas.l0 k l0 a1 0
theorem laws_mdHas.calls (k : Nat) (A0 : Option Addr) (c0 : Nat) (l0 : List ByteArray) (a1 : ByteArray) (r : Bool) (w : World) (hr0 : Kd.C Kd.string w A0 l0.length l0) (hc0 : l0.length ≤ c0) (h : laws_mdHas.f k l0 a1 = some r) :
  Calls Try.prog 22 #[.slice A0 l0.length c0, .string a1] w fun e w' => e = .returned (.bool r) ∧ Drawn0 w w' := by
 have HR0 := am hr0; have HC0 := am hc0; clear hr0 hc0
 have H : (laws_mdHas.l0 k l0 a1 0) = some r := h
 clear h
 have H' := am H
 clear H; go_enter Try.func22, Try.ntmps22; go_wp2
 go_loopg [5] k (fun kq v5 w' => ∃ (x5_1 : Int), v5 = .int .i64 x5_1 ∧ Aside0 (laws_mdHas.l0 kq l0 a1 x5_1 = some r) ∧ Aside0 (kq ≤ k) ∧ Drawn0 w w')
 case atStart => exact ⟨(0), sq, H', ⟨Nat.le_refl _⟩, dr⟩
 case round =>
  clear H'; (try clear c2); (try clear p2); obtain ⟨x5_1, rfl, HA, HK1, ⟨m1, rfl⟩⟩ := hrel
  cases gk with
  | zero => exact absurd HA.out (by simp [laws_mdHas.l0])
  | succ k1 =>
   have H := HA.out; clear HA
   simp only [laws_mdHas.l0] at H
   by_cases c3 : x5_1 < (l0.length : Int)
   ·rw [if_pos c3] at H; have c3b0 := decide_eq_true c3; clear c3
    replace H := it H; obtain ⟨c4b0, H⟩ := H
    by_cases c5 : (rdOf ByteArray.empty l0 x5_1).toList = a1.toList
    ·rw [if_pos c5] at H
     have c5b0 : ((rdOf ByteArray.empty l0 x5_1).toList == a1.toList) = true := beq_iff_eq.mpr c5
     have c5b1 : ((rdOf ByteArray.empty l0 x5_1).toList != a1.toList) = false := bne_eq_false_iff_eq.mpr c5
     clear c5; obtain rfl := Option.some.inj H
     have p513 : 0 ≤ (x5_1 : Int) := of_decide_eq_true ad
     have q513 : x5_1 < (l0.length : Int) := of_decide_eq_true ad
     obtain ⟨ad513, e513, hx513_0⟩ := Kd.at_string HR0.out x5_1 p513 q513
     cases e513
     replace p513 := eq_true p513; replace q513 := eq_true q513; go_wp2; go_ret
     exact ⟨sq, dr⟩
    rw [if_neg c5] at H
    have c5b0 : ((rdOf ByteArray.empty l0 x5_1).toList == a1.toList) = false := beq_eq_false_iff_ne.mpr c5
    have c5b1 : ((rdOf ByteArray.empty l0 x5_1).toList != a1.toList) = true := bne_iff_ne.mpr c5
    have H' := am H
    clear H
    have p513 : 0 ≤ (x5_1 : Int) := of_decide_eq_true ad
    have q513 : x5_1 < (l0.length : Int) := of_decide_eq_true ad
    obtain ⟨ad513, e513, hx513_0⟩ := Kd.at_string HR0.out x5_1 p513 q513
    cases e513
    replace p513 := eq_true p513; replace q513 := eq_true q513; go_wp2
    go_roundg k1
    case measure => have := HK1.out; omega
    case rel => exact ⟨(wrap64 (x5_1 + 1)), sq, H', ⟨b53_⟩, dr⟩
   rw [if_neg c3] at H; have c3b0 := decide_eq_false c3; clear c3; obtain rfl := Option.some.inj H; go_wp2; go_ret
   exact ⟨sq, dr⟩

/-! ### spec_WordOk: function 24 -/
def spec_WordOk.f (k : Nat) (a0 : ByteArray) : Option (Bool) := (spec_l1Word.f k a0).bind fun t514 => (some t514)
theorem spec_WordOk.calls (k : Nat) (a0 : ByteArray) (r : Bool) (w : World) (h : spec_WordOk.f k a0 = some r) :
  Calls Try.prog 24 #[.string a0] w fun e w' => e = .returned (.bool r) ∧ Drawn0 w w' := by
 have H : ((spec_l1Word.f k a0).bind fun t514 => (some t514)) = some r := h
 clear h; replace H := bs H; obtain ⟨t514, A20, H⟩ := H; replace H : (some t514) = some r := H; have A2 := Aside0.mk A20; clear A20; obtain rfl := Option.some.inj H; go_enter Try.func24, Try.ntmps24
 go_wp2_with (first | ((with_reducible refine gate_callee (f := 57) rfl ?_); refine goesL_ (some 4) rfl rfl Try.func57 (by kernel_rfl) rfl #[.string a0] rfl mq ?_; (with_reducible refine (spec_l1Word.calls k a0 t514 _ A2.out).mono ?_); rintro e w' ⟨rfl, ⟨nd, rfl⟩⟩; refine ⟨_, rfl, ?_⟩))
 go_ret
 exact ⟨sq, dr⟩
end Go.Proofs.Ytfpmfaelodfecaa.QFnGuesses
