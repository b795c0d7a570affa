import Derived.Test.YtedfcehhgbeibaaQFnNearx0
import Derived.Test.YtedfcehhgbeibaaQFnNearx3
import Derived.Test.YtedfcehhgbeibaaVMSh2
namespace Go.Proofs.Ytedfcehhgbeibaa.QFnNear
open Go.RowKit Go.Proofs.YtedfcehhgbeibaaW.PrintWords Go.Proofs.YtedfcehhgbeibaaW.PrintLast Go.Proofs.YtedfcehhgbeibaaW.PrintMore Go.Proofs.Ytedfcehhgbeibaa.Sh
attribute [local go_sem] max2_int min2_int max_two min_two max_three min_three max_four min_four   -- for this text's walks alone
set_option linter.unusedVariables false
set_option linter.unusedSimpArgs false
-- shrunk

/-! ### spec_l1Near: function 85 -/
mutual
def spec_l1Near.l0 : Nat → ByteArray → List ByteArray → Int → Option (List ByteArray)
 | 0, _, _, _ => none
 | k + 1, x0, x3, x4 => if x4 ≤ (x0.size : Int) then (spec_l1Near.l1 k x0 x3 x4 97) else (some x3)
def spec_l1Near.l1 : Nat → ByteArray → List ByteArray → Int → Int → Option (List ByteArray)
 | 0, _, _, _, _ => none
 | k + 1, x0, x3, x4, x5 => if x5 ≤ 122 then (if 0 ≤ x4 then (if x4 ≤ (x0.size : Int) then ((some (([(x5) % 256] : List Int) : List Int)).bind fun y139 => (if (x0.extract 0 (x4 : Int).toNat).size + (strOfNums y139).size ≤ 9223372036854775807 then (if ((x0.extract 0 (x4 : Int).toNat) ++ (strOfNums y139)).size + (x0.extract (x4 : Int).toNat x0.size).size ≤ 9223372036854775807 then ((spec_l1Step.f k x3 x0 (((x0.extract 0 (x4 : Int).toNat) ++ (strOfNums y139)) ++ (x0.extract (x4 : Int).toNat x0.size))).bind fun t142 => (if x4 < (x0.size : Int) then ((some (([(x5) % 256] : List Int) : List Int)).bind fun y145 => (if (x0.extract 0 (x4 : Int).toNat).size + (strOfNums y145).size ≤ 9223372036854775807 then (if 0 ≤ (wrap64 (x4 + 1)) then (if (wrap64 (x4 + 1)) ≤ (x0.size : Int) then (if ((x0.extract 0 (x4 : Int).toNat) ++ (strOfNums y145)).size + (x0.extract ((wrap64 (x4 + 1)) : Int).toNat x0.size).size ≤ 9223372036854775807 then ((spec_l1Step.f k t142 x0 (((x0.extract 0 (x4 : Int).toNat) ++ (strOfNums y145)) ++ (x0.extract ((wrap64 (x4 + 1)) : Int).toNat x0.size))).bind fun t148 => (spec_l1Near.l1 k x0 t148 x4 (wrap32 (x5 + 1)))) else (none)) else (none)) else (none)) else (none))) else (spec_l1Near.l1 k x0 t142 x4 (wrap32 (x5 + 1))))) else (none)) else (none))) else (none)) else (none)) else (if x4 < (x0.size : Int) then (if 0 ≤ x4 then (if x4 ≤ (x0.size : Int) then (if 0 ≤ (wrap64 (x4 + 1)) then (if (wrap64 (x4 + 1)) ≤ (x0.size : Int) then (if (x0.extract 0 (x4 : Int).toNat).size + (x0.extract ((wrap64 (x4 + 1)) : Int).toNat x0.size).size ≤ 9223372036854775807 then ((spec_l1Step.f k x3 x0 ((x0.extract 0 (x4 : Int).toNat) ++ (x0.extract ((wrap64 (x4 + 1)) : Int).toNat x0.size))).bind fun t151 => (spec_l1Near.j2 k x0 t151 x4)) else (none)) else (none)) else (none)) else (none)) else (none)) else (spec_l1Near.j2 k x0 x3 x4))
def spec_l1Near.j2 : Nat → ByteArray → List ByteArray → Int → Option (List ByteArray)
 | 0, _, _, _ => none
 | k + 1, x0, x3, x4 => if (wrap64 (x4 + 1)) < (x0.size : Int) then (if 0 ≤ x4 then (if x4 ≤ (x0.size : Int) then (if 0 ≤ (wrap64 (x4 + 1)) then (if (wrap64 (x4 + 1)) ≤ (wrap64 (x4 + 2)) then (if (wrap64 (x4 + 2)) ≤ (x0.size : Int) then (if (x0.extract 0 (x4 : Int).toNat).size + (x0.extract ((wrap64 (x4 + 1)) : Int).toNat ((wrap64 (x4 + 2)) : Int).toNat).size ≤ 9223372036854775807 then (if x4 ≤ (wrap64 (x4 + 1)) then (if (wrap64 (x4 + 1)) ≤ (x0.size : Int) then (if ((x0.extract 0 (x4 : Int).toNat) ++ (x0.extract ((wrap64 (x4 + 1)) : Int).toNat ((wrap64 (x4 + 2)) : Int).toNat)).size + (x0.extract (x4 : Int).toNat ((wrap64 (x4 + 1)) : Int).toNat).size ≤ 9223372036854775807 then (if 0 ≤ (wrap64 (x4 + 2)) then (if (((x0.extract 0 (x4 : Int).toNat) ++ (x0.extract ((wrap64 (x4 + 1)) : Int).toNat ((wrap64 (x4 + 2)) : Int).toNat)) ++ (x0.extract (x4 : Int).toNat ((wrap64 (x4 + 1)) : Int).toNat)).size + (x0.extract ((wrap64 (x4 + 2)) : Int).toNat x0.size).size ≤ 9223372036854775807 then ((spec_l1Step.f k x3 x0 ((((x0.extract 0 (x4 : Int).toNat) ++ (x0.extract ((wrap64 (x4 + 1)) : Int).toNat ((wrap64 (x4 + 2)) : Int).toNat)) ++ (x0.extract (x4 : Int).toNat ((wrap64 (x4 + 1)) : Int).toNat)) ++ (x0.extract ((wrap64 (x4 + 2)) : Int).toNat x0.size))).bind fun t154 => (spec_l1Near.l0 k x0 t154 (wrap64 (x4 + 1)))) else (none)) else (none)) else (none)) else (none)) else (none)) else (none)) else (none)) else (none)) else (none)) else (none)) else (none)) else (spec_l1Near.l0 k x0 x3 (wrap64 (x4 + 1)))
end
def spec_l1Near.f (k : Nat) (a0 : ByteArray) : Option (List ByteArray) := spec_l1Near.l0 k a0 (([] : List ByteArray)) 0
theorem spec_l1Near.mono_l : ∀ k, (∀ y0 y1 y2, LeO (spec_l1Near.l0 k y0 y1 y2) (spec_l1Near.l0 (k + 1) y0 y1 y2)) ∧ (∀ y0 y1 y2 y3, LeO (spec_l1Near.l1 k y0 y1 y2 y3) (spec_l1Near.l1 (k + 1) y0 y1 y2 y3)) ∧ (∀ y0 y1 y2, LeO (spec_l1Near.j2 k y0 y1 y2) (spec_l1Near.j2 (k + 1) y0 y1 y2))
 | 0 => ⟨fun _ _ _ r h => by simp [spec_l1Near.l0] at h, fun _ _ _ _ r h => by simp [spec_l1Near.l1] at h, fun _ _ _ r h => by simp [spec_l1Near.j2] at h⟩
 | k + 1 => by
  obtain ⟨ih0, ih1, ih2⟩ := spec_l1Near.mono_l k
  refine ⟨?_, ?_, ?_⟩
  ·intro y0 y1 y2
   unfold spec_l1Near.l0
   repeat' first | (with_reducible first | exact ih0 _ _ _ | exact ih1 _ _ _ _ | exact ih2 _ _ _ | exact spec_l1Step.mono _ _ _ _ | exact LeO.refl _ | exact LeO.none _ | refine LeO.ite ?_ ?_ | refine LeO.bind ?_ (fun _ => ?_)) | exact ih0 _ _ _ | exact ih1 _ _ _ _ | exact ih2 _ _ _ | exact spec_l1Step.mono _ _ _ _ | exact LeO.none _ | refine LeO.ite ?_ ?_ | refine LeO.bind ?_ (fun _ => ?_)
  ·intro y0 y1 y2 y3
   unfold spec_l1Near.l1
   repeat' first | (with_reducible first | exact ih0 _ _ _ | exact ih1 _ _ _ _ | exact ih2 _ _ _ | exact spec_l1Step.mono _ _ _ _ | exact LeO.refl _ | exact LeO.none _ | refine LeO.ite ?_ ?_ | refine LeO.bind ?_ (fun _ => ?_)) | exact ih0 _ _ _ | exact ih1 _ _ _ _ | exact ih2 _ _ _ | exact spec_l1Step.mono _ _ _ _ | exact LeO.none _ | refine LeO.ite ?_ ?_ | refine LeO.bind ?_ (fun _ => ?_)
  ·intro y0 y1 y2
   unfold spec_l1Near.j2
   repeat' first | (with_reducible first | exact ih0 _ _ _ | exact ih1 _ _ _ _ | exact ih2 _ _ _ | exact spec_l1Step.mono _ _ _ _ | exact LeO.refl _ | exact LeO.none _ | refine LeO.ite ?_ ?_ | refine LeO.bind ?_ (fun _ => ?_)) | exact ih0 _ _ _ | exact ih1 _ _ _ _ | exact ih2 _ _ _ | exact spec_l1Step.mono _ _ _ _ | exact LeO.none _ | refine LeO.ite ?_ ?_ | refine LeO.bind ?_ (fun _ => ?_)
theorem spec_l1Near.mono : ∀ a0 k, LeO (spec_l1Near.f k a0) (spec_l1Near.f (k + 1) a0) := by
 intro a0 k; obtain ⟨ih0, ih1, ih2⟩ := spec_l1Near.mono_l k
 unfold spec_l1Near.f
 repeat' first | (with_reducible first | exact ih0 _ _ _ | exact ih1 _ _ _ _ | exact ih2 _ _ _ | exact spec_l1Step.mono _ _ _ _ | exact LeO.refl _ | exact LeO.none _ | refine LeO.ite ?_ ?_ | refine LeO.bind ?_ (fun _ => ?_)) | exact ih0 _ _ _ | exact ih1 _ _ _ _ | exact ih2 _ _ _ | exact spec_l1Step.mono _ _ _ _ | exact LeO.none _ | refine LeO.ite ?_ ?_ | refine LeO.bind ?_ (fun _ => ?_)
def spec_l1Near.T8 : Bool × List (List Nat × List Nat) := (true, [([], []), ([], []), ([], []), ([], []), ([2, 3], [2, 3]), ([], []), ([5], [5]), ([6], [6]), ([7], [7]), ([4, 8], [4, 8]), ([], []), ([], []), ([10, 11], [10, 11]), ([9, 12], [9, 12]), ([0, 1, 13], [0, 1, 13]), ([14, 14, 0, 1, 2, 3, 4, 5, 6, 7, 8, 9, 10, 11, 12, 13, 14], [0, 14])])
def spec_l1Near.B8 : List Nat := [0, 0, 0, 0, 12, 0, 32, 96, 224, 508, 0, 0, 3072, 8188, 16383, 32767]
theorem spec_l1Near.tab8 : rtab .any (opsOf Try.f85 8) = spec_l1Near.T8 := by kernel_rfl
theorem spec_l1Near.bits8 : waitsOk spec_l1Near.T8.2 spec_l1Near.B8 = true := by kernel_rfl
def spec_l1Near.T10 : Bool × List (List Nat × List Nat) := (true, [([], []), ([], []), ([], []), ([], []), ([2, 3], [2, 3]), ([], []), ([5], [5]), ([6], [6]), ([7], [7]), ([4, 8], [4, 8]), ([], []), ([], []), ([11], [11]), ([10, 12], [10, 12]), ([9, 13], [9, 13]), ([0, 1, 14], [0, 1, 14]), ([15, 15, 0, 1, 2, 3, 4, 5, 6, 7, 8, 9, 10, 11, 12, 13, 14, 15], [0, 15])])
def spec_l1Near.B10 : List Nat := [0, 0, 0, 0, 12, 0, 32, 96, 224, 508, 0, 0, 2048, 7168, 16380, 32767, 65535]
theorem spec_l1Near.tab10 : rtab .any (opsOf Try.f85 10) = spec_l1Near.T10 := by kernel_rfl
theorem spec_l1Near.bits10 : waitsOk spec_l1Near.T10.2 spec_l1Near.B10 = true := by kernel_rfl
def spec_l1Near.T12 : Bool × List (List Nat × List Nat) := (true, [([], []), ([], []), ([], []), ([], []), ([2, 3], [2, 3]), ([], []), ([], []), ([6], [6]), ([5, 7], [5, 7]), ([4, 8], [4, 8]), ([0, 1, 9], [0, 1, 9]), ([10, 10, 0, 1, 2, 3, 4, 5, 6, 7, 8, 9, 10], [0, 10])])
def spec_l1Near.B12 : List Nat := [0, 0, 0, 0, 12, 0, 0, 64, 224, 508, 1023, 2047]
theorem spec_l1Near.tab12 : rtab .any (opsOf Try.f85 12) = spec_l1Near.T12 := by kernel_rfl
theorem spec_l1Near.bits12 : waitsOk spec_l1Near.T12.2 spec_l1Near.B12 = true := by kernel_rfl
def spec_l1Near.T14 : Bool × List (List Nat × List Nat) := (true, [([], []), ([], []), ([], []), ([], []), ([2, 3], [2, 3]), ([], []), ([], []), ([6], [6]), ([], []), ([8], [8]), ([5, 7, 9], [5, 7, 9]), ([4, 10], [4, 10]), ([], []), ([], []), ([], []), ([14], [14]), ([12, 13, 15], [12, 13, 15]), ([11, 16], [11, 16]), ([], []), ([], []), ([19], [19]), ([18, 20], [18, 20]), ([17, 21], [17, 21]), ([0, 1, 22], [0, 1, 22]), ([23, 23, 0, 1, 2, 3, 4, 5, 6, 7, 8, 9, 10, 11, 12, 13, 14, 15, 16, 17, 18, 19, 20, 21, 22, 23], [0, 23])])
def spec_l1Near.B14 : List Nat := [0, 0, 0, 0, 12, 0, 0, 64, 0, 256, 992, 2044, 0, 0, 0, 16384, 61440, 131068, 0, 0, 524288, 1835008, 4194300, 8388607, 16777215]
theorem spec_l1Near.tab14 : rtab .any (opsOf Try.f85 14) = spec_l1Near.T14 := by kernel_rfl
theorem spec_l1Near.bits14 : waitsOk spec_l1Near.T14.2 spec_l1Near.B14 = true := by kernel_rfl
set_option maxHeartbeats 8000000 in
set_option maxRecDepth 100000 in
theorem spec_l1Near.calls (k : Nat) (a0 : ByteArray) (r : List ByteArray) (w : World) (h : spec_l1Near.f k a0 = some r) :
  Calls Try.prog 85 #[.string a0] w fun e w' => ∃ v0_ : Value, e = .returned (v0_) ∧ Kd.V Kd.string 9 w' w.heap.size (fun k_ => (w.heap.size ≤ k_)) v0_ r ∧ Below w.heap.size w w' := by
 have HB := am (Below.refl w.heap.size w)
 have H : (spec_l1Near.l0 k a0 (([] : List ByteArray)) 0) = some r := h
 clear h; obtain ⟨y136, hy136⟩ : ∃ y_ : List ByteArray, y_ = (([] : List ByteArray)) := ⟨_, rfl⟩
 replace H : (spec_l1Near.l0 k a0 y136 0) = some r := by first | (rw [hy136]; with_reducible exact H) | (have H2_ := (Option.bind_some _ _).symm.trans H; rw [hy136]; with_reducible exact H2_) | (have H2_ := (Option.bind_some _ _).symm.trans H; with_reducible exact H2_) | with_reducible exact H | (rw [hy136]; exact H) | exact H
 have Ny136 := am hy136; clear hy136
 have H' := am H
 clear H; go_enter Try.func85, Try.ntmps85
 go_wp2_with (first | ((with_reducible refine gate_dst (N := 6) rfl ?_); refine Kd.R_lit Kd.string _ 9 ?hg (N := 6) ?hd (xs := ([] : List ByteArray)) (inner := []) (ok := fun _ => True) (okp := fun _ => True) ?hr ?hp (fun _ hk => hk) trivial (Below.refl _ _) (Nat.le_refl _) (by simp) ?_; (case hd => rfl); (case hg => rfl); (case hr => first | (go_simp; done) | (go_simp; rfl)); (case hp => exact (Reps.none _ _)); intro v137 w2 ho3 hb hg_ hnew_; clear hg_ hnew_; (first | rw [← Ny136.out] at ho3 | (simp only [Int.reduceToNat] at ho3; rw [← Ny136.out] at ho3) | (simp only [Int.toNat_natCast] at ho3; rw [← Ny136.out] at ho3)); have HO138 := am (Kd.R_lower (Kd.R_newM (M := fun k_ => (w.heap.size ≤ k_)) ho3 (below_size bel) (fun k_ h_ => h_)) (below_size bel)); replace HB := am (below_step bel hb); clear hb ho3))
 go_loopg [3, 4] k (fun kq v3 v4 w' => ∃ (x3_1 : List ByteArray) (x4_1 : Int), v4 = .int .i64 x4_1 ∧ Aside0 (spec_l1Near.l0 kq a0 x3_1 x4_1 = some r) ∧ Aside0 (kq ≤ k) ∧ Aside0 (Kd.V Kd.string 9 w' w.heap.size (fun k_ => (w.heap.size ≤ k_)) v3 x3_1) ∧ Aside0 (Below w.heap.size w w'))
 case atStart => exact ⟨(y136), (0), sq, H', ⟨Nat.le_refl _⟩, ⟨Kd.R_V (rq (Kd.R_mono HO138.out (fun _ hk => hk.1)))⟩, ⟨bel⟩⟩
 case round =>
  clear H'; (try clear p2); obtain ⟨x3_1, x4_1, rfl, HA, HK1, HO_3, HB⟩ := hrel
  cases gk with
  | zero => exact absurd HA.out (by simp [spec_l1Near.l0])
  | succ k1 =>
   have H := HA.out; clear HA
   simp only [spec_l1Near.l0] at H
   by_cases c4 : x4_1 ≤ (a0.size : Int)
   ·rw [if_pos c4] at H; have c4b0 := decide_eq_true c4; clear c4
    have H' := am H
    clear H; go_wp2
    go_loopg [3, 5] k1 (fun kq v3 v5 w' => ∃ (x3_2 : List ByteArray) (x5_2 : Int), v5 = .int .i32 x5_2 ∧ Aside0 (spec_l1Near.l1 kq a0 x3_2 x4_1 x5_2 = some r) ∧ Aside0 (kq ≤ k1) ∧ Aside0 (Kd.V Kd.string 9 w' w.heap.size (fun k_ => (w.heap.size ≤ k_)) v3 x3_2) ∧ Aside0 (Below w.heap.size w w'))
    case atStart => exact ⟨(x3_1), (97), sq, H', ⟨Nat.le_refl _⟩, ⟨vq HO_3.out⟩, ⟨bel⟩⟩
    case round =>
     clear H'; (try clear p2); (try clear c4); (try clear c4b0); (try clear p2); obtain ⟨x3_2, x5_2, rfl, HA, HK2, HO_3, HB⟩ := hrel
     cases gk with
     | zero => exact absurd HA.out (by simp [spec_l1Near.l1])
     | succ k2 =>
      have H := HA.out; clear HA
      simp only [spec_l1Near.l1] at H
      by_cases c5 : x5_2 ≤ 122
      ·rw [if_pos c5] at H; have c5b0 := decide_eq_true c5; clear c5
       by_cases c6 : 0 ≤ x4_1
       ·rw [if_pos c6] at H; have c6b0 := eq_true c6
        have c6b1 : decide (0 ≤ x4_1) = true := decide_eq_true c6
        clear c6
        by_cases c7 : x4_1 ≤ (a0.size : Int)
        ·rw [if_pos c7] at H; have c7b0 := eq_true c7
         have c7b1 : decide (x4_1 ≤ (a0.size : Int)) = true := decide_eq_true c7
         clear c7; obtain ⟨y139, hy139⟩ : ∃ y_ : List Int, y_ = (([(x5_2) % 256] : List Int)) := ⟨_, rfl⟩
         replace H : (if (a0.extract 0 (x4_1 : Int).toNat).size + (strOfNums y139).size ≤ 9223372036854775807 then (if ((a0.extract 0 (x4_1 : Int).toNat) ++ (strOfNums y139)).size + (a0.extract (x4_1 : Int).toNat a0.size).size ≤ 9223372036854775807 then ((spec_l1Step.f k2 x3_2 a0 (((a0.extract 0 (x4_1 : Int).toNat) ++ (strOfNums y139)) ++ (a0.extract (x4_1 : Int).toNat a0.size))).bind fun t142 => (if x4_1 < (a0.size : Int) then ((some (([(x5_2) % 256] : List Int) : List Int)).bind fun y145 => (if (a0.extract 0 (x4_1 : Int).toNat).size + (strOfNums y145).size ≤ 9223372036854775807 then (if 0 ≤ (wrap64 (x4_1 + 1)) then (if (wrap64 (x4_1 + 1)) ≤ (a0.size : Int) then (if ((a0.extract 0 (x4_1 : Int).toNat) ++ (strOfNums y145)).size + (a0.extract ((wrap64 (x4_1 + 1)) : Int).toNat a0.size).size ≤ 9223372036854775807 then ((spec_l1Step.f k2 t142 a0 (((a0.extract 0 (x4_1 : Int).toNat) ++ (strOfNums y145)) ++ (a0.extract ((wrap64 (x4_1 + 1)) : Int).toNat a0.size))).bind fun t148 => (spec_l1Near.l1 k2 a0 t148 x4_1 (wrap32 (x5_2 + 1)))) else (none)) else (none)) else (none)) else (none))) else (spec_l1Near.l1 k2 a0 t142 x4_1 (wrap32 (x5_2 + 1))))) else (none)) else (none)) = some r := by first | (rw [hy139]; with_reducible exact H) | (have H2_ := (Option.bind_some _ _).symm.trans H; rw [hy139]; with_reducible exact H2_) | (have H2_ := (Option.bind_some _ _).symm.trans H; with_reducible exact H2_) | with_reducible exact H | (rw [hy139]; exact H) | exact H
         have Ny139 := am hy139; clear hy139
         by_cases c8 : (a0.extract 0 (x4_1 : Int).toNat).size + (strOfNums y139).size ≤ 9223372036854775807
         ·rw [if_pos c8] at H; have c8b0 := eq_true c8; have c8b5 := c8
          try simp at c8b5
          try have c8b4 := eq_false (Nat.not_lt.2 c8b5)
          try have c8b3 : (9223372036854775807 < (x4_1 : Int).toNat + (strOfNums y139).size) = False := by
                have h_ := c8
                simp only [ByteArray.size_append, ByteArray.size_extract] at h_
                have g0_ : (x4_1) ≤ (a0.size : Int) := of_decide_eq_true ad
                exact eq_false (by omega)
          have c8b1 : decide ((a0.extract 0 (x4_1 : Int).toNat).size + (strOfNums y139).size ≤ 9223372036854775807) = true := decide_eq_true c8
          try have c8b2 : (9223372036854775807 < (a0.extract 0 (x4_1 : Int).toNat).size + (strOfNums y139).size) = False := eq_false (Nat.not_lt.2 c8)
          have c9b0 := eq_true (of_decide_eq_true ad : 0 ≤ x4_1); have c10b0 := eq_true (of_decide_eq_true ad : x4_1 ≤ (a0.size : Int))
          by_cases c11 : ((a0.extract 0 (x4_1 : Int).toNat) ++ (strOfNums y139)).size + (a0.extract (x4_1 : Int).toNat a0.size).size ≤ 9223372036854775807
          ·rw [if_pos c11] at H; have c11b0 := eq_true c11; have c11b5 := c11
           try simp at c11b5
           try have c11b4 := eq_false (Nat.not_lt.2 c11b5)
           try have c11b3 : (9223372036854775807 < (x4_1 : Int).toNat + (strOfNums y139).size + (a0.size - (x4_1 : Int).toNat)) = False := by
                 have h_ := c11
                 simp only [ByteArray.size_append, ByteArray.size_extract] at h_
                 have g0_ : (x4_1) ≤ (a0.size : Int) := of_decide_eq_true ad
                 exact eq_false (by omega)
           have c11b1 : decide (((a0.extract 0 (x4_1 : Int).toNat) ++ (strOfNums y139)).size + (a0.extract (x4_1 : Int).toNat a0.size).size ≤ 9223372036854775807) = true := decide_eq_true c11
           try have c11b2 : (9223372036854775807 < ((a0.extract 0 (x4_1 : Int).toNat) ++ (strOfNums y139)).size + (a0.extract (x4_1 : Int).toNat a0.size).size) = False := eq_false (Nat.not_lt.2 c11)
           replace H := Option.bind_eq_some_iff.mp H; obtain ⟨t142, A120, H⟩ := H; replace H : (if x4_1 < (a0.size : Int) then ((some (([(x5_2) % 256] : List Int) : List Int)).bind fun y145 => (if (a0.extract 0 (x4_1 : Int).toNat).size + (strOfNums y145).size ≤ 9223372036854775807 then (if 0 ≤ (wrap64 (x4_1 + 1)) then (if (wrap64 (x4_1 + 1)) ≤ (a0.size : Int) then (if ((a0.extract 0 (x4_1 : Int).toNat) ++ (strOfNums y145)).size + (a0.extract ((wrap64 (x4_1 + 1)) : Int).toNat a0.size).size ≤ 9223372036854775807 then ((spec_l1Step.f k2 t142 a0 (((a0.extract 0 (x4_1 : Int).toNat) ++ (strOfNums y145)) ++ (a0.extract ((wrap64 (x4_1 + 1)) : Int).toNat a0.size))).bind fun t148 => (spec_l1Near.l1 k2 a0 t148 x4_1 (wrap32 (x5_2 + 1)))) else (none)) else (none)) else (none)) else (none))) else (spec_l1Near.l1 k2 a0 t142 x4_1 (wrap32 (x5_2 + 1)))) = some r := H; have A12 := Aside0.mk A120; clear A120
           by_cases c13 : x4_1 < (a0.size : Int)
           ·rw [if_pos c13] at H; have c13b0 := decide_eq_true c13; clear c13; have c14b0 := eq_true (of_decide_eq_true ad : 0 ≤ x4_1); have c15b0 := eq_true (of_decide_eq_true ad : x4_1 ≤ (a0.size : Int)); obtain ⟨y145, hy145⟩ : ∃ y_ : List Int, y_ = (([(x5_2) % 256] : List Int)) := ⟨_, rfl⟩
            replace H : (if (a0.extract 0 (x4_1 : Int).toNat).size + (strOfNums y145).size ≤ 9223372036854775807 then (if 0 ≤ (wrap64 (x4_1 + 1)) then (if (wrap64 (x4_1 + 1)) ≤ (a0.size : Int) then (if ((a0.extract 0 (x4_1 : Int).toNat) ++ (strOfNums y145)).size + (a0.extract ((wrap64 (x4_1 + 1)) : Int).toNat a0.size).size ≤ 9223372036854775807 then ((spec_l1Step.f k2 t142 a0 (((a0.extract 0 (x4_1 : Int).toNat) ++ (strOfNums y145)) ++ (a0.extract ((wrap64 (x4_1 + 1)) : Int).toNat a0.size))).bind fun t148 => (spec_l1Near.l1 k2 a0 t148 x4_1 (wrap32 (x5_2 + 1)))) else (none)) else (none)) else (none)) else (none)) = some r := by first | (rw [hy145]; with_reducible exact H) | (have H2_ := (Option.bind_some _ _).symm.trans H; rw [hy145]; with_reducible exact H2_) | (have H2_ := (Option.bind_some _ _).symm.trans H; with_reducible exact H2_) | with_reducible exact H | (rw [hy145]; exact H) | exact H
            have Ny145 := am hy145; clear hy145
            by_cases c16 : (a0.extract 0 (x4_1 : Int).toNat).size + (strOfNums y145).size ≤ 9223372036854775807
            ·rw [if_pos c16] at H; have c16b0 := eq_true c16; have c16b5 := c16
             try simp at c16b5
             try have c16b4 := eq_false (Nat.not_lt.2 c16b5)
             try have c16b3 : (9223372036854775807 < (x4_1 : Int).toNat + (strOfNums y145).size) = False := by
                   have h_ := c16
                   simp only [ByteArray.size_append, ByteArray.size_extract] at h_
                   have g0_ : (x4_1) ≤ (a0.size : Int) := of_decide_eq_true ad
                   exact eq_false (by omega)
             have c16b1 : decide ((a0.extract 0 (x4_1 : Int).toNat).size + (strOfNums y145).size ≤ 9223372036854775807) = true := decide_eq_true c16
             try have c16b2 : (9223372036854775807 < (a0.extract 0 (x4_1 : Int).toNat).size + (strOfNums y145).size) = False := eq_false (Nat.not_lt.2 c16)
             obtain ⟨ji17, hji17⟩ : ∃ j_ : Int, (wrap64 (x4_1 + 1)) = j_ := ⟨_, rfl⟩
             replace H : (if 0 ≤ (ji17) then (if (ji17) ≤ (a0.size : Int) then (if ((a0.extract 0 (x4_1 : Int).toNat) ++ (strOfNums y145)).size + (a0.extract ((ji17) : Int).toNat a0.size).size ≤ 9223372036854775807 then ((spec_l1Step.f k2 t142 a0 (((a0.extract 0 (x4_1 : Int).toNat) ++ (strOfNums y145)) ++ (a0.extract ((ji17) : Int).toNat a0.size))).bind fun t148 => (spec_l1Near.l1 k2 a0 t148 x4_1 (wrap32 (x5_2 + 1)))) else (none)) else (none)) else (none)) = some r := by first | (rw [hji17] at H; exact H) | (simp only [hji17] at H ⊢; exact H)
             (try rw [hji17] at A12)
             have hji17w : (IntKind.i64.wrap (x4_1 + 1)) = ji17 := (i64_w _).trans hji17
             by_cases c18 : 0 ≤ (ji17)
             ·rw [if_pos c18] at H; have c18b0 := eq_true c18
              have c18b1 : decide (0 ≤ (ji17)) = true := decide_eq_true c18
              clear c18
              by_cases c19 : (ji17) ≤ (a0.size : Int)
              ·rw [if_pos c19] at H; have c19b0 := eq_true c19
               have c19b1 : decide ((ji17) ≤ (a0.size : Int)) = true := decide_eq_true c19
               clear c19
               by_cases c20 : ((a0.extract 0 (x4_1 : Int).toNat) ++ (strOfNums y145)).size + (a0.extract ((ji17) : Int).toNat a0.size).size ≤ 9223372036854775807
               ·rw [if_pos c20] at H; have c20b0 := eq_true c20; have c20b5 := c20
                try simp at c20b5
                try have c20b4 := eq_false (Nat.not_lt.2 c20b5)
                try have c20b3 : (9223372036854775807 < (x4_1 : Int).toNat + (strOfNums y145).size + (a0.size - ((ji17) : Int).toNat)) = False := by
                      have h_ := c20
                      simp only [ByteArray.size_append, ByteArray.size_extract] at h_
                      have g0_ : (x4_1) ≤ (a0.size : Int) := of_decide_eq_true ad
                      exact eq_false (by omega)
                have c20b1 : decide (((a0.extract 0 (x4_1 : Int).toNat) ++ (strOfNums y145)).size + (a0.extract ((ji17) : Int).toNat a0.size).size ≤ 9223372036854775807) = true := decide_eq_true c20
                try have c20b2 : (9223372036854775807 < ((a0.extract 0 (x4_1 : Int).toNat) ++ (strOfNums y145)).size + (a0.extract ((ji17) : Int).toNat a0.size).size) = False := eq_false (Nat.not_lt.2 c20)
                replace H := Option.bind_eq_some_iff.mp H; obtain ⟨t148, A210, H⟩ := H; replace H : (spec_l1Near.l1 k2 a0 t148 x4_1 (wrap32 (x5_2 + 1))) = some r := H; have A21 := Aside0.mk A210; clear A210
                have H' := am H
                clear H
                try go_wp2
                replace HO_3 := am (Kd.V_drew HO_3.out); replace HB := am (below_drew1 HB.out)
                refine st (n := 16) (S := fun w' => True) (ds := []) trivial (fun hHeld => ?_); refine with_tabW spec_l1Near.tab8 spec_l1Near.bits8 (fun HT_ HW_ => ?_)
                generalize wr.drew = w22 at HO_3 HB hHeld ⊢
                refine pu 0 17 ?_
                refine pu 1 18 ?_
                refine pu 2 19 ?_
                refine pu 3 20 ?_
                refine pu 4 21 ?_
                refine pu 5 22 ?_
                refine pu 6 23 ?_
                refine pu 10 27 ?_
                refine pu 11 28 ?_
                refine pu 12 29 ?_
                refine on1 7 24 (fun K hK => ?_)
                refine Kd.R_lit_step (Kd.int .u8) _ 5 ?hg (N := 24) ?hd (xs := ([(x5_2) % 256] : List Int)) (inner := [.int .u8 ((x5_2) % 256)]) (ok := fun _ => True) (okp := fun _ => True) ?hr ?hp (fun _ hk => hk) trivial (Below.refl _ _) (Nat.le_refl _) (by simp) ?_; (case hd => rfl); (case hg => rfl); (case hr => first | (go_simp; done) | (go_simp; rfl)); (case hp => exact (Reps.one (show Kd.M (Kd.int .u8) _ _ _ ((x5_2) % 256) [.int .u8 ((x5_2) % 256)] from rfl) (Reps.none _ _)))
                intro v140 w23 ho24 hb hg_ hnew_; clear hg_ hnew_
                (first | rw [← Ny139.out] at ho24 | (simp only [Int.reduceToNat] at ho24; rw [← Ny139.out] at ho24) | (simp only [Int.toNat_natCast] at ho24; rw [← Ny139.out] at ho24))
                replace HO_3 := am (Kd.V_elder' (vq HO_3.out) (Kd.R_base ho24) hb); have HO141 := am (Kd.R_lower (Kd.R_newM (M := fun k_ => (w.heap.size ≤ k_)) ho24 (below_size bel) (fun k_ h_ => h_)) (below_size bel)); replace HB := am (below_step bel hb); clear hb ho24; obtain ⟨Ao26, co26, eo26⟩ := Kd.V_slice HO_3.out
                (first | subst eo26 | (injection eo26 with f1_ f2_ f3_; have f4_ := f1_.symm; have f5_ := f3_.symm; clear f1_ f2_ f3_; subst f4_; subst f5_))
                refine hK.out _ _ trivial (fun hHeld => ?_)
                clear hK K
                refine norm_ (a' := ?_) ?_ ?_
                rotate_left
                ·show Act.put _ (some 24) _ = _
                 simp only [Act.put, List.setIfInBounds_toArray, List.set_cons_zero, List.set_cons_succ, i64_w, i32_w]
                 rfl
                refine on1 8 25 (fun K hK => ?_)
                have hcv25 := own_string (P := Try.prog) Try.underlying38 Try.underlying5 Try.underlying9 (Kd.own_of_R HO141.out)
                refine value_ (w1 := ?_) (v := ?_) (by rfl) rfl ?_ ?_
                rotate_left 2
                ·go_simp
                 constructor
                 ·rfl
                 ·rfl
                clear hcv25
                refine hK.out _ _ trivial (fun hHeld => ?_)
                clear hK K
                refine norm_ (a' := ?_) ?_ ?_
                rotate_left
                ·show Act.put _ (some 25) _ = _
                 simp only [Act.put, List.setIfInBounds_toArray, List.set_cons_zero, List.set_cons_succ, i64_w, i32_w]
                 rfl
                refine pu 9 26 ?_
                refine pu 13 30 ?_
                refine on1 14 31 (fun K hK => ?_)
                refine goes_ Try.func106 (by kernel_rfl) rfl #[.slice Ao26 x3_2.length co26, .string a0, .string (((a0.extract 0 (x4_1 : Int).toNat) ++ (strOfNums y139)) ++ (a0.extract (x4_1 : Int).toNat a0.size))] (by rfl) rfl rfl mq ?_
                with_reducible refine (spec_l1Step.calls k2 (fun k_ => ((w.heap.size ≤ k_) ∧ some k_ ≠ (v140 : Value).ownBlock)) _ _ x3_2 a0 (((a0.extract 0 (x4_1 : Int).toNat) ++ (strOfNums y139)) ++ (a0.extract (x4_1 : Int).toNat a0.size)) t142 _ ?side1 A12.out).mono ?_
                (case side1 => exact HO_3.out)
                rintro e w27 ⟨v143, rfl, ho0, hb⟩
                refine ⟨_, rfl, ?_⟩
                replace HO_3 := am (Kd.V_below (vq HO_3.out) hb); have HO144 := am (Kd.V_lower (Kd.V_mono (ok' := fun k_ => (w.heap.size ≤ k_) ∧ some k_ ≠ (v140 : Value).ownBlock) ho0 (fun k_ hk_ => ⟨Or.elim hk_ (fun hs_ => hs_.1) (fun hn_ => (Nat.le_trans (below_size bel) hn_)), Or.elim hk_ (fun hs_ => hs_.2) (fun hn_ => (Kd.fresh' (Kd.R_lt (rq HO141.out)) k_ hn_))⟩)) (below_size bel)); replace HO141 := am (Kd.R_below (rq HO141.out) hb); replace HB := am (below_step bel hb)
                (try clear hb)
                (try clear hb2)
                (try clear hk)
                (try clear hi)
                (try clear ho0)
                refine hK.out _ _ trivial (fun hHeld => ?_)
                clear hK K
                refine norm_ (a' := ?_) ?_ ?_
                rotate_left
                ·show Act.put _ (some 31) _ = _
                 simp only [Act.put, List.setIfInBounds_toArray, List.set_cons_zero, List.set_cons_succ, i64_w, i32_w]
                 rfl
                refine pu 15 3 ?_
                refine done_ (done_of HT_.out (by kernel_rfl)) ?_
                try go_wp2
                replace HO_3 := am (Kd.V_drew HO_3.out); replace HO141 := am (Kd.R_drew HO141.out); replace HO144 := am (Kd.V_drew HO144.out); replace HB := am (below_drew1 HB.out)
                refine st (n := 17) (S := fun w' => True) (ds := []) trivial (fun hHeld => ?_); refine with_tabW spec_l1Near.tab10 spec_l1Near.bits10 (fun HT_ HW_ => ?_)
                generalize w27.drew = w28 at HO_3 HO141 HO144 HB hHeld ⊢
                refine pu 0 36 ?_
                refine pu 1 37 ?_
                refine pu 2 38 ?_
                refine pu 3 39 ?_
                refine pu 4 40 ?_
                refine pu 5 41 ?_
                refine pu 6 42 ?_
                refine pu 10 46 ?_
                refine pu 11 47 ?_
                refine pu 12 48 ?_
                refine pu 13 49 ?_
                refine on1 7 43 (fun K hK => ?_)
                refine Kd.R_lit_step (Kd.int .u8) _ 5 ?hg (N := 43) ?hd (xs := ([(x5_2) % 256] : List Int)) (inner := [.int .u8 ((x5_2) % 256)]) (ok := fun _ => True) (okp := fun _ => True) ?hr ?hp (fun _ hk => hk) trivial (Below.refl _ _) (Nat.le_refl _) (by simp) ?_; (case hd => rfl); (case hg => rfl); (case hr => first | (go_simp; done) | (go_simp; rfl)); (case hp => exact (Reps.one (show Kd.M (Kd.int .u8) _ _ _ ((x5_2) % 256) [.int .u8 ((x5_2) % 256)] from rfl) (Reps.none _ _)))
                intro v146 w29 ho30 hb hg_ hnew_; clear hg_ hnew_
                (first | rw [← Ny145.out] at ho30 | (simp only [Int.reduceToNat] at ho30; rw [← Ny145.out] at ho30) | (simp only [Int.toNat_natCast] at ho30; rw [← Ny145.out] at ho30))
                replace HO_3 := am (Kd.V_elder' (vq HO_3.out) (Kd.R_base ho30) hb); replace HO144 := am (Kd.V_elder' (vq HO144.out) (Kd.R_base ho30) hb); have HO147 := am (Kd.R_lower (Kd.R_new' (Kd.R_newM (M := fun k_ => (w.heap.size ≤ k_)) ho30 (below_size bel) (fun k_ h_ => h_)) (Kd.R_lt (rq HO141.out))) (below_size bel)); replace HO141 := am (Kd.R_elder' (rq HO141.out) (Kd.R_base ho30) hb); replace HB := am (below_step bel hb); clear hb ho30; obtain ⟨Ao32, co32, eo32⟩ := Kd.V_slice HO144.out
                (first | subst eo32 | (injection eo32 with f1_ f2_ f3_; have f4_ := f1_.symm; have f5_ := f3_.symm; clear f1_ f2_ f3_; subst f4_; subst f5_))
                refine hK.out _ _ trivial (fun hHeld => ?_)
                clear hK K
                refine norm_ (a' := ?_) ?_ ?_
                rotate_left
                ·show Act.put _ (some 43) _ = _
                 simp only [Act.put, List.setIfInBounds_toArray, List.set_cons_zero, List.set_cons_succ, i64_w, i32_w]
                 rfl
                refine on1 8 44 (fun K hK => ?_)
                have hcv31 := own_string (P := Try.prog) Try.underlying38 Try.underlying5 Try.underlying9 (Kd.own_of_R HO147.out)
                refine value_ (w1 := ?_) (v := ?_) (by rfl) rfl ?_ ?_
                rotate_left 2
                ·go_simp
                 constructor
                 ·rfl
                 ·rfl
                clear hcv31
                refine hK.out _ _ trivial (fun hHeld => ?_)
                clear hK K
                refine norm_ (a' := ?_) ?_ ?_
                rotate_left
                ·show Act.put _ (some 44) _ = _
                 simp only [Act.put, List.setIfInBounds_toArray, List.set_cons_zero, List.set_cons_succ, i64_w, i32_w]
                 rfl
                refine pu 9 45 ?_
                refine pu 14 50 ?_
                refine on1 15 51 (fun K hK => ?_)
                refine goes_ Try.func106 (by kernel_rfl) rfl #[.slice Ao32 t142.length co32, .string a0, .string (((a0.extract 0 (x4_1 : Int).toNat) ++ (strOfNums y145)) ++ (a0.extract ((ji17) : Int).toNat a0.size))] (by rfl) rfl rfl (by (try simp only [List.map_toArray, List.map_cons, List.map_nil]); first | done | (simp only [hji17]; rfl) | rfl | (simp only [List.length_drop, List.length_take]; rfl)) ?_
                with_reducible refine (spec_l1Step.calls k2 (fun k_ => (((w.heap.size ≤ k_) ∧ some k_ ≠ (v140 : Value).ownBlock) ∧ some k_ ≠ (v146 : Value).ownBlock)) _ _ t142 a0 (((a0.extract 0 (x4_1 : Int).toNat) ++ (strOfNums y145)) ++ (a0.extract ((ji17) : Int).toNat a0.size)) t148 _ ?side1 A21.out).mono ?_
                (case side1 => exact HO144.out)
                rintro e w33 ⟨v149, rfl, ho0, hb⟩
                refine ⟨_, rfl, ?_⟩
                replace HO_3 := am (Kd.V_below (vq HO_3.out) hb); replace HO144 := am (Kd.V_below (vq HO144.out) hb); have HO150 := am (Kd.V_lower (Kd.V_mono (ok' := fun k_ => (w.heap.size ≤ k_) ∧ some k_ ≠ (v140 : Value).ownBlock ∧ some k_ ≠ (v146 : Value).ownBlock) ho0 (fun k_ hk_ => ⟨Or.elim hk_ (fun hs_ => hs_.1.1) (fun hn_ => (Nat.le_trans (below_size bel) hn_)), Or.elim hk_ (fun hs_ => hs_.1.2) (fun hn_ => (Kd.fresh' (Kd.R_lt (rq HO141.out)) k_ hn_)), Or.elim hk_ (fun hs_ => hs_.2) (fun hn_ => (Kd.fresh' (Kd.R_lt (rq HO147.out)) k_ hn_))⟩)) (below_size bel)); replace HO141 := am (Kd.R_below (rq HO141.out) hb); replace HO147 := am (Kd.R_below (rq HO147.out) hb); replace HB := am (below_step bel hb)
                (try clear hb)
                (try clear hb2)
                (try clear hk)
                (try clear hi)
                (try clear ho0)
                refine hK.out _ _ trivial (fun hHeld => ?_)
                clear hK K
                refine norm_ (a' := ?_) ?_ ?_
                rotate_left
                ·show Act.put _ (some 51) _ = _
                 simp only [Act.put, List.setIfInBounds_toArray, List.set_cons_zero, List.set_cons_succ, i64_w, i32_w]
                 rfl
                refine pu 16 3 ?_
                refine done_ (done_of HT_.out (by kernel_rfl)) ?_
                try go_wp2
                go_roundg k2
                case measure => have := HK1.out; have := HK2.out; omega
                case rel => exact ⟨(t148), (wrap32 (x5_2 + 1)), sq, H', ⟨by have := HK1.out; have := HK2.out; omega⟩, ⟨vq (Kd.V_mono HO150.out (fun _ hk => hk.1))⟩, ⟨bel⟩⟩
               ·rw [if_neg c20] at H
                exact absurd H (by simp)
              ·rw [if_neg c19] at H
               exact absurd H (by simp)
             ·rw [if_neg c18] at H
              exact absurd H (by simp)
            ·rw [if_neg c16] at H
             exact absurd H (by simp)
           ·rw [if_neg c13] at H; have c13b0 := decide_eq_false c13; clear c13
            have H' := am H
            clear H
            try go_wp2
            replace HO_3 := am (Kd.V_drew HO_3.out); replace HB := am (below_drew1 HB.out)
            refine st (n := 16) (S := fun w' => True) (ds := []) trivial (fun hHeld => ?_); refine with_tabW spec_l1Near.tab8 spec_l1Near.bits8 (fun HT_ HW_ => ?_)
            generalize wr.drew = w34 at HO_3 HB hHeld ⊢
            refine pu 0 17 ?_
            refine pu 1 18 ?_
            refine pu 2 19 ?_
            refine pu 3 20 ?_
            refine pu 4 21 ?_
            refine pu 5 22 ?_
            refine pu 6 23 ?_
            refine pu 10 27 ?_
            refine pu 11 28 ?_
            refine pu 12 29 ?_
            refine on1 7 24 (fun K hK => ?_)
            refine Kd.R_lit_step (Kd.int .u8) _ 5 ?hg (N := 24) ?hd (xs := ([(x5_2) % 256] : List Int)) (inner := [.int .u8 ((x5_2) % 256)]) (ok := fun _ => True) (okp := fun _ => True) ?hr ?hp (fun _ hk => hk) trivial (Below.refl _ _) (Nat.le_refl _) (by simp) ?_; (case hd => rfl); (case hg => rfl); (case hr => first | (go_simp; done) | (go_simp; rfl)); (case hp => exact (Reps.one (show Kd.M (Kd.int .u8) _ _ _ ((x5_2) % 256) [.int .u8 ((x5_2) % 256)] from rfl) (Reps.none _ _)))
            intro v140 w35 ho36 hb hg_ hnew_; clear hg_ hnew_
            (first | rw [← Ny139.out] at ho36 | (simp only [Int.reduceToNat] at ho36; rw [← Ny139.out] at ho36) | (simp only [Int.toNat_natCast] at ho36; rw [← Ny139.out] at ho36))
            replace HO_3 := am (Kd.V_elder' (vq HO_3.out) (Kd.R_base ho36) hb); have HO141 := am (Kd.R_lower (Kd.R_newM (M := fun k_ => (w.heap.size ≤ k_)) ho36 (below_size bel) (fun k_ h_ => h_)) (below_size bel)); replace HB := am (below_step bel hb); clear hb ho36; obtain ⟨Ao38, co38, eo38⟩ := Kd.V_slice HO_3.out
            (first | subst eo38 | (injection eo38 with f1_ f2_ f3_; have f4_ := f1_.symm; have f5_ := f3_.symm; clear f1_ f2_ f3_; subst f4_; subst f5_))
            refine hK.out _ _ trivial (fun hHeld => ?_)
            clear hK K
            refine norm_ (a' := ?_) ?_ ?_
            rotate_left
            ·show Act.put _ (some 24) _ = _
             simp only [Act.put, List.setIfInBounds_toArray, List.set_cons_zero, List.set_cons_succ, i64_w, i32_w]
             rfl
            refine on1 8 25 (fun K hK => ?_)
            have hcv37 := own_string (P := Try.prog) Try.underlying38 Try.underlying5 Try.underlying9 (Kd.own_of_R HO141.out)
            refine value_ (w1 := ?_) (v := ?_) (by rfl) rfl ?_ ?_
            rotate_left 2
            ·go_simp
             constructor
             ·rfl
             ·rfl
            clear hcv37
            refine hK.out _ _ trivial (fun hHeld => ?_)
            clear hK K
            refine norm_ (a' := ?_) ?_ ?_
            rotate_left
            ·show Act.put _ (some 25) _ = _
             simp only [Act.put, List.setIfInBounds_toArray, List.set_cons_zero, List.set_cons_succ, i64_w, i32_w]
             rfl
            refine pu 9 26 ?_
            refine pu 13 30 ?_
            refine on1 14 31 (fun K hK => ?_)
            refine goes_ Try.func106 (by kernel_rfl) rfl #[.slice Ao38 x3_2.length co38, .string a0, .string (((a0.extract 0 (x4_1 : Int).toNat) ++ (strOfNums y139)) ++ (a0.extract (x4_1 : Int).toNat a0.size))] (by rfl) rfl rfl mq ?_
            with_reducible refine (spec_l1Step.calls k2 (fun k_ => ((w.heap.size ≤ k_) ∧ some k_ ≠ (v140 : Value).ownBlock)) _ _ x3_2 a0 (((a0.extract 0 (x4_1 : Int).toNat) ++ (strOfNums y139)) ++ (a0.extract (x4_1 : Int).toNat a0.size)) t142 _ ?side1 A12.out).mono ?_
            (case side1 => exact HO_3.out)
            rintro e w39 ⟨v143, rfl, ho0, hb⟩
            refine ⟨_, rfl, ?_⟩
            replace HO_3 := am (Kd.V_below (vq HO_3.out) hb); have HO144 := am (Kd.V_lower (Kd.V_mono (ok' := fun k_ => (w.heap.size ≤ k_) ∧ some k_ ≠ (v140 : Value).ownBlock) ho0 (fun k_ hk_ => ⟨Or.elim hk_ (fun hs_ => hs_.1) (fun hn_ => (Nat.le_trans (below_size bel) hn_)), Or.elim hk_ (fun hs_ => hs_.2) (fun hn_ => (Kd.fresh' (Kd.R_lt (rq HO141.out)) k_ hn_))⟩)) (below_size bel)); replace HO141 := am (Kd.R_below (rq HO141.out) hb); replace HB := am (below_step bel hb)
            (try clear hb)
            (try clear hb2)
            (try clear hk)
            (try clear hi)
            (try clear ho0)
            refine hK.out _ _ trivial (fun hHeld => ?_)
            clear hK K
            refine norm_ (a' := ?_) ?_ ?_
            rotate_left
            ·show Act.put _ (some 31) _ = _
             simp only [Act.put, List.setIfInBounds_toArray, List.set_cons_zero, List.set_cons_succ, i64_w, i32_w]
             rfl
            refine pu 15 3 ?_
            refine done_ (done_of HT_.out (by kernel_rfl)) ?_
            try go_wp2
            go_roundg k2
            case measure => have := HK1.out; have := HK2.out; omega
            case rel => exact ⟨(t142), (wrap32 (x5_2 + 1)), sq, H', ⟨by have := HK1.out; have := HK2.out; omega⟩, ⟨vq (Kd.V_mono HO144.out (fun _ hk => hk.1))⟩, ⟨bel⟩⟩
          ·rw [if_neg c11] at H
           exact absurd H (by simp)
         ·rw [if_neg c8] at H
          exact absurd H (by simp)
        ·rw [if_neg c7] at H
         exact absurd H (by simp)
       ·rw [if_neg c6] at H
        exact absurd H (by simp)
      ·rw [if_neg c5] at H; have c5b0 := decide_eq_false c5; clear c5; have HC40 := am H; clear H
       go_upto_if 55 with (fail)
       go_cut [3] (fun v3 wc => ∃ (kq : Nat) (x3_39 : List ByteArray), Aside0 (spec_l1Near.j2 kq a0 x3_39 x4_1 = some r) ∧ Aside0 (kq ≤ k2) ∧ Aside0 (Kd.V Kd.string 9 wc w.heap.size (fun k_ => (w.heap.size ≤ k_)) v3 x3_39) ∧ Aside0 (Below w.heap.size w wc))
       case first =>
        have H := HC40.out; clear HC40
        by_cases c41 : x4_1 < (a0.size : Int)
        ·rw [if_pos c41] at H; have c41b0 := decide_eq_true c41; clear c41
         (first | rw [c41b0] | (simp only [i64_w, i32_w]; rw [c41b0]) | skip)
         by_cases c42 : 0 ≤ x4_1
         ·rw [if_pos c42] at H; have c42b0 := eq_true c42
          have c42b1 : decide (0 ≤ x4_1) = true := decide_eq_true c42
          clear c42
          by_cases c43 : x4_1 ≤ (a0.size : Int)
          ·rw [if_pos c43] at H; have c43b0 := eq_true c43
           have c43b1 : decide (x4_1 ≤ (a0.size : Int)) = true := decide_eq_true c43
           clear c43; obtain ⟨ji44, hji44⟩ : ∃ j_ : Int, (wrap64 (x4_1 + 1)) = j_ := ⟨_, rfl⟩
           replace H : (if 0 ≤ (ji44) then (if (ji44) ≤ (a0.size : Int) then (if (a0.extract 0 (x4_1 : Int).toNat).size + (a0.extract ((ji44) : Int).toNat a0.size).size ≤ 9223372036854775807 then ((spec_l1Step.f k2 x3_2 a0 ((a0.extract 0 (x4_1 : Int).toNat) ++ (a0.extract ((ji44) : Int).toNat a0.size))).bind fun t151 => (spec_l1Near.j2 k2 a0 t151 x4_1)) else (none)) else (none)) else (none)) = some r := by first | (rw [hji44] at H; exact H) | (simp only [hji44] at H ⊢; exact H)
           have hji44w : (IntKind.i64.wrap (x4_1 + 1)) = ji44 := (i64_w _).trans hji44
           (try clear hji17w)
           by_cases c45 : 0 ≤ (ji44)
           ·rw [if_pos c45] at H; have c45b0 := eq_true c45
            have c45b1 : decide (0 ≤ (ji44)) = true := decide_eq_true c45
            clear c45
            by_cases c46 : (ji44) ≤ (a0.size : Int)
            ·rw [if_pos c46] at H; have c46b0 := eq_true c46
             have c46b1 : decide ((ji44) ≤ (a0.size : Int)) = true := decide_eq_true c46
             clear c46
             by_cases c47 : (a0.extract 0 (x4_1 : Int).toNat).size + (a0.extract ((ji44) : Int).toNat a0.size).size ≤ 9223372036854775807
             ·rw [if_pos c47] at H; have c47b0 := eq_true c47; have c47b5 := c47
              try simp at c47b5
              try have c47b4 := eq_false (Nat.not_lt.2 c47b5)
              try have c47b3 : (9223372036854775807 < (x4_1 : Int).toNat + (a0.size - ((ji44) : Int).toNat)) = False := by
                    have h_ := c47
                    simp only [ByteArray.size_append, ByteArray.size_extract] at h_
                    have g0_ : (x4_1) ≤ (a0.size : Int) := of_decide_eq_true ad
                    exact eq_false (by omega)
              have c47b1 : decide ((a0.extract 0 (x4_1 : Int).toNat).size + (a0.extract ((ji44) : Int).toNat a0.size).size ≤ 9223372036854775807) = true := decide_eq_true c47
              try have c47b2 : (9223372036854775807 < (a0.extract 0 (x4_1 : Int).toNat).size + (a0.extract ((ji44) : Int).toNat a0.size).size) = False := eq_false (Nat.not_lt.2 c47)
              replace H := Option.bind_eq_some_iff.mp H; obtain ⟨t151, A480, H⟩ := H; replace H : (spec_l1Near.j2 k2 a0 t151 x4_1) = some r := H; have A48 := Aside0.mk A480; clear A480
              have H' := am H
              clear H
              try go_wp2
              replace HO_3 := am (Kd.V_drew HO_3.out); replace HB := am (below_drew1 HB.out); obtain ⟨Ao50, co50, eo50⟩ := Kd.V_slice HO_3.out
              (first | subst eo50 | (injection eo50 with f1_ f2_ f3_; have f4_ := f1_.symm; have f5_ := f3_.symm; clear f1_ f2_ f3_; subst f4_; subst f5_))
              refine st (n := 12) (S := fun w' => True) (ds := []) trivial (fun hHeld => ?_); refine with_tabW spec_l1Near.tab12 spec_l1Near.bits12 (fun HT_ HW_ => ?_)
              generalize wr.drew = w49 at HO_3 HB hHeld ⊢
              refine pu 0 56 ?_
              refine pu 1 57 ?_
              refine pu 2 58 ?_
              refine pu 3 59 ?_
              refine pu 4 60 ?_
              refine pu 5 61 ?_
              refine pu 6 62 ?_
              refine pu 7 63 ?_
              refine pu 8 64 ?_
              refine pu 9 65 ?_
              refine on1 10 66 (fun K hK => ?_)
              refine goes_ Try.func106 (by kernel_rfl) rfl #[.slice Ao50 x3_2.length co50, .string a0, .string ((a0.extract 0 (x4_1 : Int).toNat) ++ (a0.extract ((ji44) : Int).toNat a0.size))] (by rfl) rfl rfl (by (try simp only [List.map_toArray, List.map_cons, List.map_nil]); first | done | (simp only [hji44]; rfl) | rfl | (simp only [List.length_drop, List.length_take]; rfl)) ?_
              with_reducible refine (spec_l1Step.calls k2 (fun k_ => (w.heap.size ≤ k_)) _ _ x3_2 a0 ((a0.extract 0 (x4_1 : Int).toNat) ++ (a0.extract ((ji44) : Int).toNat a0.size)) t151 _ ?side1 A48.out).mono ?_
              (case side1 => exact HO_3.out)
              rintro e w51 ⟨v152, rfl, ho0, hb⟩
              refine ⟨_, rfl, ?_⟩
              replace HO_3 := am (Kd.V_below (vq HO_3.out) hb); have HO153 := am (Kd.V_lower (Kd.V_mono (ok' := fun k_ => (w.heap.size ≤ k_)) ho0 (fun k_ hk_ => Or.elim hk_ (fun hs_ => hs_) (fun hn_ => (Nat.le_trans (below_size bel) hn_)))) (below_size bel)); replace HB := am (below_step bel hb)
              (try clear hb)
              (try clear hb2)
              (try clear hk)
              (try clear hi)
              (try clear ho0)
              refine hK.out _ _ trivial (fun hHeld => ?_)
              clear hK K
              refine norm_ (a' := ?_) ?_ ?_
              rotate_left
              ·show Act.put _ (some 66) _ = _
               simp only [Act.put, List.setIfInBounds_toArray, List.set_cons_zero, List.set_cons_succ, i64_w, i32_w]
               rfl
              refine pu 11 3 ?_
              refine done_ (done_of HT_.out (by kernel_rfl)) ?_
              try go_wp2
              go_meet
              case rel => exact ⟨_, (t151), H', ⟨by have := HK1.out; have := HK2.out; first | omega | exact Nat.le_refl _⟩, ⟨vq HO153.out⟩, ⟨bel⟩⟩
             ·rw [if_neg c47] at H
              exact absurd H (by simp)
            ·rw [if_neg c46] at H
             exact absurd H (by simp)
           ·rw [if_neg c45] at H
            exact absurd H (by simp)
          ·rw [if_neg c43] at H
           exact absurd H (by simp)
         ·rw [if_neg c42] at H
          exact absurd H (by simp)
        ·rw [if_neg c41] at H; have c41b0 := decide_eq_false c41; clear c41
         (first | rw [c41b0] | (simp only [i64_w, i32_w]; rw [c41b0]) | skip)
         have H' := am H
         clear H; go_wp2
         go_meet
         case rel => exact ⟨_, (x3_2), H', ⟨by have := HK1.out; have := HK2.out; first | omega | exact Nat.le_refl _⟩, ⟨vq HO_3.out⟩, ⟨bel⟩⟩
       case rest =>
        clear HC40; (try clear c1); (try clear c2); (try clear p2); (try clear p3); (try clear hcv3); (try clear c4); (try clear c5); (try clear c5b0); (try clear c6); (try clear p6); (try clear c7); (try clear c8); (try clear c10); (try clear c11); (try clear c13); (try clear c13b0); (try clear c16); (try clear c18); (try clear c19); (try clear c20); (try clear hcv31); (try clear p32); (try clear hcv37); (try clear c41); (try clear c41b0); (try clear c42); (try clear c42b0); (try clear c42b1); (try clear c43); (try clear c43b0); (try clear c43b1); (try clear c45); (try clear c45b0); (try clear c45b1); (try clear c46); (try clear c46b0); (try clear c46b1); (try clear c47); (try clear c47b0); (try clear c47b1); (try clear c47b2); obtain ⟨kq, x3_39, HA, HJ39, HO_3, HB⟩ := hcut
        cases kq with
        | zero => exact absurd HA.out (by simp [spec_l1Near.j2])
        | succ kj39 =>
         have H := HA.out; clear HA
         simp only [spec_l1Near.j2] at H
         by_cases c52 : (wrap64 (x4_1 + 1)) < (a0.size : Int)
         ·rw [if_pos c52] at H; have c52b0 := decide_eq_true c52; clear c52
          by_cases c53 : 0 ≤ x4_1
          ·rw [if_pos c53] at H; have c53b0 := eq_true c53
           have c53b1 : decide (0 ≤ x4_1) = true := decide_eq_true c53
           clear c53
           by_cases c54 : x4_1 ≤ (a0.size : Int)
           ·rw [if_pos c54] at H; have c54b0 := eq_true c54
            have c54b1 : decide (x4_1 ≤ (a0.size : Int)) = true := decide_eq_true c54
            clear c54; obtain ⟨ji55, hji55⟩ : ∃ j_ : Int, (wrap64 (x4_1 + 1)) = j_ := ⟨_, rfl⟩
            replace H : (if 0 ≤ (ji55) then (if (ji55) ≤ (wrap64 (x4_1 + 2)) then (if (wrap64 (x4_1 + 2)) ≤ (a0.size : Int) then (if (a0.extract 0 (x4_1 : Int).toNat).size + (a0.extract ((ji55) : Int).toNat ((wrap64 (x4_1 + 2)) : Int).toNat).size ≤ 9223372036854775807 then (if x4_1 ≤ (ji55) then (if (ji55) ≤ (a0.size : Int) then (if ((a0.extract 0 (x4_1 : Int).toNat) ++ (a0.extract ((ji55) : Int).toNat ((wrap64 (x4_1 + 2)) : Int).toNat)).size + (a0.extract (x4_1 : Int).toNat ((ji55) : Int).toNat).size ≤ 9223372036854775807 then (if 0 ≤ (wrap64 (x4_1 + 2)) then (if (((a0.extract 0 (x4_1 : Int).toNat) ++ (a0.extract ((ji55) : Int).toNat ((wrap64 (x4_1 + 2)) : Int).toNat)) ++ (a0.extract (x4_1 : Int).toNat ((ji55) : Int).toNat)).size + (a0.extract ((wrap64 (x4_1 + 2)) : Int).toNat a0.size).size ≤ 9223372036854775807 then ((spec_l1Step.f kj39 x3_39 a0 ((((a0.extract 0 (x4_1 : Int).toNat) ++ (a0.extract ((ji55) : Int).toNat ((wrap64 (x4_1 + 2)) : Int).toNat)) ++ (a0.extract (x4_1 : Int).toNat ((ji55) : Int).toNat)) ++ (a0.extract ((wrap64 (x4_1 + 2)) : Int).toNat a0.size))).bind fun t154 => (spec_l1Near.l0 kj39 a0 t154 ji55)) else (none)) else (none)) else (none)) else (none)) else (none)) else (none)) else (none)) else (none)) else (none)) = some r := by first | (rw [hji55] at H; exact H) | (simp only [hji55] at H ⊢; exact H)
            (try rw [hji55] at c52b0)
            have hji55w : (IntKind.i64.wrap (x4_1 + 1)) = ji55 := (i64_w _).trans hji55
            (try clear hji17w)
            (try clear hji44w)
            by_cases c56 : 0 ≤ (ji55)
            ·rw [if_pos c56] at H; have c56b0 := eq_true c56
             have c56b1 : decide (0 ≤ (ji55)) = true := decide_eq_true c56
             clear c56
             by_cases c57 : (ji55) ≤ (wrap64 (x4_1 + 2))
             ·rw [if_pos c57] at H; have c57b0 := eq_true c57
              have c57b1 : decide ((ji55) ≤ (wrap64 (x4_1 + 2))) = true := decide_eq_true c57
              by_cases c58 : (wrap64 (x4_1 + 2)) ≤ (a0.size : Int)
              ·rw [if_pos c58] at H; have c58b0 := eq_true c58
               have c58b1 : decide ((wrap64 (x4_1 + 2)) ≤ (a0.size : Int)) = true := decide_eq_true c58
               by_cases c59 : (a0.extract 0 (x4_1 : Int).toNat).size + (a0.extract ((ji55) : Int).toNat ((wrap64 (x4_1 + 2)) : Int).toNat).size ≤ 9223372036854775807
               ·rw [if_pos c59] at H; have c59b0 := eq_true c59; have c59b5 := c59
                try simp at c59b5
                try have c59b4 := eq_false (Nat.not_lt.2 c59b5)
                try have c59b3 : (9223372036854775807 < (x4_1 : Int).toNat + (((wrap64 (x4_1 + 2)) : Int).toNat - ((ji55) : Int).toNat)) = False := by
                      have h_ := c59
                      simp only [ByteArray.size_append, ByteArray.size_extract] at h_
                      have g0_ : (x4_1) ≤ (a0.size : Int) := of_decide_eq_true ad
                      have g1_ : ((wrap64 (x4_1 + 2))) ≤ (a0.size : Int) := of_decide_eq_true ad
                      exact eq_false (by omega)
                have c59b1 : decide ((a0.extract 0 (x4_1 : Int).toNat).size + (a0.extract ((ji55) : Int).toNat ((wrap64 (x4_1 + 2)) : Int).toNat).size ≤ 9223372036854775807) = true := decide_eq_true c59
                try have c59b2 : (9223372036854775807 < (a0.extract 0 (x4_1 : Int).toNat).size + (a0.extract ((ji55) : Int).toNat ((wrap64 (x4_1 + 2)) : Int).toNat).size) = False := eq_false (Nat.not_lt.2 c59)
                have c60b0 := eq_true (of_decide_eq_true ad : 0 ≤ x4_1)
                by_cases c61 : x4_1 ≤ (ji55)
                ·rw [if_pos c61] at H; have c61b0 := eq_true c61
                 have c61b1 : decide (x4_1 ≤ (ji55)) = true := decide_eq_true c61
                 clear c61
                 by_cases c62 : (ji55) ≤ (a0.size : Int)
                 ·rw [if_pos c62] at H; have c62b0 := eq_true c62
                  have c62b1 : decide ((ji55) ≤ (a0.size : Int)) = true := decide_eq_true c62
                  clear c62
                  by_cases c63 : ((a0.extract 0 (x4_1 : Int).toNat) ++ (a0.extract ((ji55) : Int).toNat ((wrap64 (x4_1 + 2)) : Int).toNat)).size + (a0.extract (x4_1 : Int).toNat ((ji55) : Int).toNat).size ≤ 9223372036854775807
                  ·rw [if_pos c63] at H; have c63b0 := eq_true c63; have c63b5 := c63
                   try simp at c63b5
                   try have c63b4 := eq_false (Nat.not_lt.2 c63b5)
                   try have c63b3 : (9223372036854775807 < (x4_1 : Int).toNat + (((wrap64 (x4_1 + 2)) : Int).toNat - ((ji55) : Int).toNat) + (((ji55) : Int).toNat - (x4_1 : Int).toNat)) = False := by
                         have h_ := c63
                         simp only [ByteArray.size_append, ByteArray.size_extract] at h_
                         have g0_ : (x4_1) ≤ (a0.size : Int) := of_decide_eq_true ad
                         have g1_ : ((wrap64 (x4_1 + 2))) ≤ (a0.size : Int) := of_decide_eq_true ad
                         have g2_ : ((ji55)) ≤ (a0.size : Int) := of_decide_eq_true ad
                         exact eq_false (by omega)
                   have c63b1 : decide (((a0.extract 0 (x4_1 : Int).toNat) ++ (a0.extract ((ji55) : Int).toNat ((wrap64 (x4_1 + 2)) : Int).toNat)).size + (a0.extract (x4_1 : Int).toNat ((ji55) : Int).toNat).size ≤ 9223372036854775807) = true := decide_eq_true c63
                   try have c63b2 : (9223372036854775807 < ((a0.extract 0 (x4_1 : Int).toNat) ++ (a0.extract ((ji55) : Int).toNat ((wrap64 (x4_1 + 2)) : Int).toNat)).size + (a0.extract (x4_1 : Int).toNat ((ji55) : Int).toNat).size) = False := eq_false (Nat.not_lt.2 c63)
                   obtain ⟨ji64, hji64⟩ : ∃ j_ : Int, (wrap64 (x4_1 + 2)) = j_ := ⟨_, rfl⟩
                   replace H : (if 0 ≤ (ji64) then (if (((a0.extract 0 (x4_1 : Int).toNat) ++ (a0.extract ((ji55) : Int).toNat ((ji64) : Int).toNat)) ++ (a0.extract (x4_1 : Int).toNat ((ji55) : Int).toNat)).size + (a0.extract ((ji64) : Int).toNat a0.size).size ≤ 9223372036854775807 then ((spec_l1Step.f kj39 x3_39 a0 ((((a0.extract 0 (x4_1 : Int).toNat) ++ (a0.extract ((ji55) : Int).toNat ((ji64) : Int).toNat)) ++ (a0.extract (x4_1 : Int).toNat ((ji55) : Int).toNat)) ++ (a0.extract ((ji64) : Int).toNat a0.size))).bind fun t154 => (spec_l1Near.l0 kj39 a0 t154 ji55)) else (none)) else (none)) = some r := by first | (rw [hji64] at H; exact H) | (simp only [hji64] at H ⊢; exact H)
                   (try rw [hji64] at c57b0)
                   (try rw [hji64] at c57b1)
                   (try rw [hji64] at c57)
                   (try rw [hji64] at c58b0)
                   (try rw [hji64] at c58b1)
                   (try rw [hji64] at c58)
                   (try rw [hji64] at c59b0)
                   (try rw [hji64] at c59b3)
                   (try rw [hji64] at c59b4)
                   (try rw [hji64] at c59b5)
                   (try rw [hji64] at c59b1)
                   (try rw [hji64] at c59)
                   (try rw [hji64] at c63b0)
                   (try rw [hji64] at c63b3)
                   (try rw [hji64] at c63b4)
                   (try rw [hji64] at c63b5)
                   (try rw [hji64] at c63b1)
                   (try rw [hji64] at c63)
                   have hji64w : (IntKind.i64.wrap (x4_1 + 2)) = ji64 := (i64_w _).trans hji64
                   by_cases c65 : 0 ≤ (ji64)
                   ·rw [if_pos c65] at H; have c65b0 := eq_true c65
                    have c65b1 : decide (0 ≤ (ji64)) = true := decide_eq_true c65
                    clear c65; have c66b0 := eq_true (of_decide_eq_true ad : (ji64) ≤ (a0.size : Int))
                    by_cases c67 : (((a0.extract 0 (x4_1 : Int).toNat) ++ (a0.extract ((ji55) : Int).toNat ((ji64) : Int).toNat)) ++ (a0.extract (x4_1 : Int).toNat ((ji55) : Int).toNat)).size + (a0.extract ((ji64) : Int).toNat a0.size).size ≤ 9223372036854775807
                    ·rw [if_pos c67] at H; have c67b0 := eq_true c67; have c67b5 := c67
                     try simp at c67b5
                     try have c67b4 := eq_false (Nat.not_lt.2 c67b5)
                     try have c67b3 : (9223372036854775807 < (x4_1 : Int).toNat + (((ji64) : Int).toNat - ((ji55) : Int).toNat) + (((ji55) : Int).toNat - (x4_1 : Int).toNat) + (a0.size - ((ji64) : Int).toNat)) = False := by
                           have h_ := c67
                           simp only [ByteArray.size_append, ByteArray.size_extract] at h_
                           have g0_ : (x4_1) ≤ (a0.size : Int) := of_decide_eq_true ad
                           have g1_ : ((ji64)) ≤ (a0.size : Int) := of_decide_eq_true ad
                           have g2_ : ((ji55)) ≤ (a0.size : Int) := of_decide_eq_true ad
                           exact eq_false (by omega)
                     have c67b1 : decide ((((a0.extract 0 (x4_1 : Int).toNat) ++ (a0.extract ((ji55) : Int).toNat ((ji64) : Int).toNat)) ++ (a0.extract (x4_1 : Int).toNat ((ji55) : Int).toNat)).size + (a0.extract ((ji64) : Int).toNat a0.size).size ≤ 9223372036854775807) = true := decide_eq_true c67
                     try have c67b2 : (9223372036854775807 < (((a0.extract 0 (x4_1 : Int).toNat) ++ (a0.extract ((ji55) : Int).toNat ((ji64) : Int).toNat)) ++ (a0.extract (x4_1 : Int).toNat ((ji55) : Int).toNat)).size + (a0.extract ((ji64) : Int).toNat a0.size).size) = False := eq_false (Nat.not_lt.2 c67)
                     replace H := Option.bind_eq_some_iff.mp H; obtain ⟨t154, A680, H⟩ := H; replace H : (spec_l1Near.l0 kj39 a0 t154 ji55) = some r := H; have A68 := Aside0.mk A680; clear A680
                     have H' := am H
                     clear H
                     try go_wp2
                     replace HO_3 := am (Kd.V_drew HO_3.out); replace HB := am (below_drew1 HB.out); obtain ⟨Ao70, co70, eo70⟩ := Kd.V_slice HO_3.out
                     (first | subst eo70 | (injection eo70 with f1_ f2_ f3_; have f4_ := f1_.symm; have f5_ := f3_.symm; clear f1_ f2_ f3_; subst f4_; subst f5_))
                     refine st (n := 25) (S := fun w' => True) (ds := []) trivial (fun hHeld => ?_); refine with_tabW spec_l1Near.tab14 spec_l1Near.bits14 (fun HT_ HW_ => ?_)
                     generalize wc.drew = w69 at HO_3 HB hHeld ⊢
                     refine pu 0 72 ?_
                     refine pu 1 73 ?_
                     refine pu 2 74 ?_
                     refine pu 3 75 ?_
                     refine pu 4 76 ?_
                     refine pu 5 77 ?_
                     refine pu 6 78 ?_
                     refine pu 7 79 ?_
                     refine pu 8 80 ?_
                     refine pu 9 81 ?_
                     refine pu 10 82 ?_
                     refine pu 11 83 ?_
                     refine pu 12 84 ?_
                     refine pu 13 85 ?_
                     refine pu 14 86 ?_
                     refine pu 15 87 ?_
                     refine pu 16 88 ?_
                     refine pu 17 89 ?_
                     refine pu 18 90 ?_
                     refine pu 19 91 ?_
                     refine pu 20 92 ?_
                     refine pu 21 93 ?_
                     refine pu 22 94 ?_
                     refine on1 23 95 (fun K hK => ?_)
                     refine goes_ Try.func106 (by kernel_rfl) rfl #[.slice Ao70 x3_39.length co70, .string a0, .string ((((a0.extract 0 (x4_1 : Int).toNat) ++ (a0.extract ((ji55) : Int).toNat ((ji64) : Int).toNat)) ++ (a0.extract (x4_1 : Int).toNat ((ji55) : Int).toNat)) ++ (a0.extract ((ji64) : Int).toNat a0.size))] (by rfl) rfl rfl (by (try simp only [List.map_toArray, List.map_cons, List.map_nil]); first | done | (simp only [hji55, hji64]; rfl) | rfl | (simp only [List.length_drop, List.length_take]; rfl)) ?_
                     with_reducible refine (spec_l1Step.calls kj39 (fun k_ => (w.heap.size ≤ k_)) _ _ x3_39 a0 ((((a0.extract 0 (x4_1 : Int).toNat) ++ (a0.extract ((ji55) : Int).toNat ((ji64) : Int).toNat)) ++ (a0.extract (x4_1 : Int).toNat ((ji55) : Int).toNat)) ++ (a0.extract ((ji64) : Int).toNat a0.size)) t154 _ ?side1 A68.out).mono ?_
                     (case side1 => exact HO_3.out)
                     rintro e w71 ⟨v155, rfl, ho0, hb⟩
                     refine ⟨_, rfl, ?_⟩
                     replace HO_3 := am (Kd.V_below (vq HO_3.out) hb); have HO156 := am (Kd.V_lower (Kd.V_mono (ok' := fun k_ => (w.heap.size ≤ k_)) ho0 (fun k_ hk_ => Or.elim hk_ (fun hs_ => hs_) (fun hn_ => (Nat.le_trans (below_size bel) hn_)))) (below_size bel)); replace HB := am (below_step bel hb)
                     (try clear hb)
                     (try clear hb2)
                     (try clear hk)
                     (try clear hi)
                     (try clear ho0)
                     refine hK.out _ _ trivial (fun hHeld => ?_)
                     clear hK K
                     refine norm_ (a' := ?_) ?_ ?_
                     rotate_left
                     ·show Act.put _ (some 95) _ = _
                      simp only [Act.put, List.setIfInBounds_toArray, List.set_cons_zero, List.set_cons_succ, i64_w, i32_w]
                      rfl
                     refine pu 24 3 ?_
                     refine done_ (done_of HT_.out (by kernel_rfl)) ?_
                     try go_wp2
                     go_roundg kj39
                     case measure => have := HK1.out; have := HK2.out; have := HJ39.out; omega
                     case rel => exact ⟨(t154), (ji55), (by first | rfl | (simp; done) | (simp only [← hji55] <;> (first | rfl | simp)) | (simp [*]; done)), H', ⟨by have := HK1.out; have := HK2.out; have := HJ39.out; omega⟩, ⟨vq HO156.out⟩, ⟨bel⟩⟩
                    ·rw [if_neg c67] at H
                     exact absurd H (by simp)
                   ·rw [if_neg c65] at H
                    exact absurd H (by simp)
                  ·rw [if_neg c63] at H
                   exact absurd H (by simp)
                 ·rw [if_neg c62] at H
                  exact absurd H (by simp)
                ·rw [if_neg c61] at H
                 exact absurd H (by simp)
               ·rw [if_neg c59] at H
                exact absurd H (by simp)
              ·rw [if_neg c58] at H
               exact absurd H (by simp)
             ·rw [if_neg c57] at H
              exact absurd H (by simp)
            ·rw [if_neg c56] at H
             exact absurd H (by simp)
           ·rw [if_neg c54] at H
            exact absurd H (by simp)
          ·rw [if_neg c53] at H
           exact absurd H (by simp)
         ·rw [if_neg c52] at H; have c52b0 := decide_eq_false c52; clear c52
          have H' := am H
          clear H; go_wp2
          go_roundg kj39
          case measure => have := HK1.out; have := HK2.out; have := HJ39.out; omega
          case rel => exact ⟨(x3_39), (wrap64 (x4_1 + 1)), sq, H', ⟨by have := HK1.out; have := HK2.out; have := HJ39.out; omega⟩, ⟨vq HO_3.out⟩, ⟨bel⟩⟩
   ·rw [if_neg c4] at H; have c4b0 := decide_eq_false c4; clear c4; obtain rfl := Option.some.inj H; go_wp2; go_ret
    exact ⟨_, eq_, by (with_reducible repeat (first | apply Kd.V_alloc | apply Kd.V_drewN | apply Kd.V_drew)); exact HO_3.out, bel⟩

end Go.Proofs.Ytedfcehhgbeibaa.QFnNear
