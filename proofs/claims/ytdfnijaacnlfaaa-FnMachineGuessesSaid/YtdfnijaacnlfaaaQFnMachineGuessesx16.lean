import Derived.Test.YtdfnijaacnlfaaaQFnMachineGuessesx0
import Derived.Test.YtdfnijaacnlfaaaQFnMachineGuessesx7
import Derived.Test.YtdfnijaacnlfaaaVMSh2
import Derived.Test.YtdfnijaacnlfaaaQFnMachineGuessesx12
namespace Go.Proofs.Ytdfnijaacnlfaaa.QFnMachineGuesses
open Go.RowKit Go.Proofs.YtdfnijaacnlfaaaW.PrintWords Go.Proofs.YtdfnijaacnlfaaaW.PrintLast Go.Proofs.YtdfnijaacnlfaaaW.PrintMore Go.Proofs.Ytdfnijaacnlfaaa.Sh
attribute [local go_sem] max2_int min2_int max_two min_two max_three min_three max_four min_four
set_option linter.unusedVariables false
set_option linter.unusedSimpArgs false
set_option maxHeartbeats 8000000
set_option maxRecDepth 100000
-- shrunk

/-! ### spec_l1Step: function 108 -/
def spec_l1Step.j0 : Nat → List ByteArray → ByteArray → Bool → Option (List ByteArray)
 | 0, _, _, _ => none
 | k + 1, x0, x2, x14 => if x14 = true then (some x0) else ((spec_l1Put.f k x0 x2).bind fun t492 => (some t492))
def spec_l1Step.f (k : Nat) (l0 : List ByteArray) (a1 : ByteArray) (a2 : ByteArray) : Option (List ByteArray) := if a2.toList = a1.toList then (spec_l1Step.j0 k l0 a2 true) else ((spec_l1Word.f k a2).bind fun t491 => (spec_l1Step.j0 k l0 a2 (!t491)))
theorem spec_l1Step.calls (k : Nat) (P0_ : Nat → Prop) (A0 : Option Addr) (c0 : Nat) (l0 : List ByteArray) (a1 : ByteArray) (a2 : ByteArray) (r : List ByteArray) (w : World) (hs0 : Kd.V Kd.string 9 w w.heap.size (fun k_ => P0_ k_) (.slice A0 l0.length c0) l0) (h : spec_l1Step.f k l0 a1 a2 = some r) :
  Calls Try.prog 108 #[.slice A0 l0.length c0, .string a1, .string a2] w fun e w' => ∃ v0_ : Value, e = .returned (v0_) ∧ Kd.V Kd.string 9 w' w.heap.size (fun k_ => (P0_ k_ ∨ w.heap.size ≤ k_)) v0_ r ∧ Below w.heap.size w w' := by
 have HO0 := am (show Kd.V Kd.string 9 w w.heap.size (fun k_ => (P0_ k_ ∨ w.heap.size ≤ k_)) (.slice A0 l0.length c0) l0 from Kd.V_mono hs0 (fun k_ hk => .inl hk)); have HB := am (Below.refl w.heap.size w)
 have H := h; unfold spec_l1Step.f at H
 clear h; have HC4 := am H; clear H; go_enter Try.func108, Try.ntmps108
 go_upto_region 1 with (fail)
 go_cut [14] (fun v14 wc => ∃ (kq : Nat) (x14_3 : Bool), v14 = .bool x14_3 ∧ Aside0 (spec_l1Step.j0 kq l0 a2 x14_3 = some r) ∧ Aside0 (kq ≤ k) ∧ Aside0 (Kd.V Kd.string 9 wc w.heap.size (fun k_ => (P0_ k_ ∨ w.heap.size ≤ k_)) (.slice A0 l0.length c0) l0) ∧ Aside0 (Below w.heap.size w wc))
 case first =>
  have H := HC4.out; clear HC4
  by_cases c5 : a2.toList = a1.toList
  ·rw [if_pos c5] at H
   have c5b0 : (a2.toList == a1.toList) = true := beq_iff_eq.mpr c5
   have c5b1 : (a2.toList != a1.toList) = false := bne_eq_false_iff_eq.mpr c5
   clear c5
   (skip)
   have H' := am H
   clear H; go_wp2
   go_meet
   case rel => exact ⟨_, (true), sq, H', ⟨b54_⟩, ⟨vq HO0.out⟩, ⟨bel⟩⟩
  rw [if_neg c5] at H
  have c5b0 : (a2.toList == a1.toList) = false := beq_eq_false_iff_ne.mpr c5
  have c5b1 : (a2.toList != a1.toList) = true := bne_iff_ne.mpr c5
  (skip)
  replace H := bs H; obtain ⟨t491, A60, H⟩ := H; have A6 := Aside0.mk A60; clear A60
  have H' := am H
  clear H
  go_wp2_with (go_at_call 71; (with_reducible refine (spec_l1Word.calls k a2 t491 _ A6.out).mono ?_); rintro e w' ⟨rfl, ⟨nd, rfl⟩⟩)
  go_meet
  case rel => exact ⟨_, (!t491), sq, H', ⟨b54_⟩, ⟨vq HO0.out⟩, ⟨bel⟩⟩
 case rest =>
  clear HC4; obtain ⟨kq, x14_3, rfl, HA, HJ3, HO_0, HB⟩ := hcut
  cases kq with
  | zero => exact absurd HA.out (by simp [spec_l1Step.j0])
  | succ kj3 =>
   have H := HA.out; clear HA; simp only [spec_l1Step.j0] at H
   by_cases c7 : x14_3 = true
   ·subst c7
    rw [if_pos rfl] at H
    obtain rfl := Option.some.inj H; go_wp2; go_ret
    exact ⟨_, eq_, by (with_reducible repeat (fail)); exact HO_0.out, bel⟩
   replace c7 := Bool.eq_false_iff.mpr c7; subst c7
   rw [if_neg Bool.false_ne_true] at H
   replace H := bs H; obtain ⟨t492, A80, H⟩ := H; have A8 := Aside0.mk A80; clear A80; obtain rfl := Option.some.inj H
   go_wp2_with ((with_reducible refine gate_callee (f := 112) rfl ?_); refine gl 18 Try.func112 #[.slice A0 l0.length c0, .string a2] ?_; (with_reducible refine (spec_l1Put.calls kj3 (fun k_ => (P0_ k_ ∨ w.heap.size ≤ k_)) _ _ l0 a2 t492 _ ?side1 A8.out).mono ?_); (case side1 => exact HO_0.out); rintro e w9 ⟨v493, rfl, ho0, hb⟩; refine ⟨_, rfl, ?_⟩; replace HO_0 := am (Kd.V_below (vq HO_0.out) hb); have HO494 := am (Kd.V_lower (Kd.V_mono (ok' := fun k_ => (P0_ k_ ∨ w.heap.size ≤ k_)) ho0 (fun k_ hk_ => Or.elim hk_ (fun hs_ => hs_) (fun hn_ => (.inr (Nat.le_trans (below_size bel) hn_))))) (below_size bel)); replace HB := am (below_step bel hb); clear hb; clear ho0)
   go_ret
   exact ⟨_, eq_, by (with_reducible repeat (fail)); exact HO494.out, bel⟩
-- shrunk

/-! ### spec_l1Near: function 72 -/
mutual
def spec_l1Near.l0 : Nat → ByteArray → List ByteArray → Int → Option (List ByteArray)
 | 0, _, _, _ => none
 | k + 1, x0, x3, x4 => if x4 ≤ (x0.size : Int) then (spec_l1Near.l1 k x0 x3 x4 97) else (some x3)
def spec_l1Near.l1 : Nat → ByteArray → List ByteArray → Int → Int → Option (List ByteArray)
 | 0, _, _, _, _ => none
 | k + 1, x0, x3, x4, x5 => if x5 ≤ 122 then (if 0 ≤ x4 then (if x4 ≤ (x0.size : Int) then ((some (([(x5) % 256] : List Int) : List Int)).bind fun y498 => (if (x0.extract 0 (x4 : Int).toNat).size + (strOfNums y498).size ≤ 9223372036854775807 then (if ((x0.extract 0 (x4 : Int).toNat) ++ (strOfNums y498)).size + (x0.extract (x4 : Int).toNat x0.size).size ≤ 9223372036854775807 then ((spec_l1Step.f k x3 x0 (((x0.extract 0 (x4 : Int).toNat) ++ (strOfNums y498)) ++ (x0.extract (x4 : Int).toNat x0.size))).bind fun t501 => (if x4 < (x0.size : Int) then ((some (([(x5) % 256] : List Int) : List Int)).bind fun y504 => (if (x0.extract 0 (x4 : Int).toNat).size + (strOfNums y504).size ≤ 9223372036854775807 then (if 0 ≤ (wrap64 (x4 + 1)) then (if (wrap64 (x4 + 1)) ≤ (x0.size : Int) then (if ((x0.extract 0 (x4 : Int).toNat) ++ (strOfNums y504)).size + (x0.extract ((wrap64 (x4 + 1)) : Int).toNat x0.size).size ≤ 9223372036854775807 then ((spec_l1Step.f k t501 x0 (((x0.extract 0 (x4 : Int).toNat) ++ (strOfNums y504)) ++ (x0.extract ((wrap64 (x4 + 1)) : Int).toNat x0.size))).bind fun t507 => (spec_l1Near.l1 k x0 t507 x4 (wrap32 (x5 + 1)))) else (none)) else (none)) else (none)) else (none))) else (spec_l1Near.l1 k x0 t501 x4 (wrap32 (x5 + 1))))) else (none)) else (none))) else (none)) else (none)) else (if x4 < (x0.size : Int) then (if 0 ≤ x4 then (if x4 ≤ (x0.size : Int) then (if 0 ≤ (wrap64 (x4 + 1)) then (if (wrap64 (x4 + 1)) ≤ (x0.size : Int) then (if (x0.extract 0 (x4 : Int).toNat).size + (x0.extract ((wrap64 (x4 + 1)) : Int).toNat x0.size).size ≤ 9223372036854775807 then ((spec_l1Step.f k x3 x0 ((x0.extract 0 (x4 : Int).toNat) ++ (x0.extract ((wrap64 (x4 + 1)) : Int).toNat x0.size))).bind fun t510 => (spec_l1Near.j2 k x0 t510 x4)) else (none)) else (none)) else (none)) else (none)) else (none)) else (spec_l1Near.j2 k x0 x3 x4))
def spec_l1Near.j2 : Nat → ByteArray → List ByteArray → Int → Option (List ByteArray)
 | 0, _, _, _ => none
 | k + 1, x0, x3, x4 => if (wrap64 (x4 + 1)) < (x0.size : Int) then (if 0 ≤ x4 then (if x4 ≤ (x0.size : Int) then (if 0 ≤ (wrap64 (x4 + 1)) then (if (wrap64 (x4 + 1)) ≤ (wrap64 (x4 + 2)) then (if (wrap64 (x4 + 2)) ≤ (x0.size : Int) then (if (x0.extract 0 (x4 : Int).toNat).size + (x0.extract ((wrap64 (x4 + 1)) : Int).toNat ((wrap64 (x4 + 2)) : Int).toNat).size ≤ 9223372036854775807 then (if x4 ≤ (wrap64 (x4 + 1)) then (if (wrap64 (x4 + 1)) ≤ (x0.size : Int) then (if ((x0.extract 0 (x4 : Int).toNat) ++ (x0.extract ((wrap64 (x4 + 1)) : Int).toNat ((wrap64 (x4 + 2)) : Int).toNat)).size + (x0.extract (x4 : Int).toNat ((wrap64 (x4 + 1)) : Int).toNat).size ≤ 9223372036854775807 then (if 0 ≤ (wrap64 (x4 + 2)) then (if (((x0.extract 0 (x4 : Int).toNat) ++ (x0.extract ((wrap64 (x4 + 1)) : Int).toNat ((wrap64 (x4 + 2)) : Int).toNat)) ++ (x0.extract (x4 : Int).toNat ((wrap64 (x4 + 1)) : Int).toNat)).size + (x0.extract ((wrap64 (x4 + 2)) : Int).toNat x0.size).size ≤ 9223372036854775807 then ((spec_l1Step.f k x3 x0 ((((x0.extract 0 (x4 : Int).toNat) ++ (x0.extract ((wrap64 (x4 + 1)) : Int).toNat ((wrap64 (x4 + 2)) : Int).toNat)) ++ (x0.extract (x4 : Int).toNat ((wrap64 (x4 + 1)) : Int).toNat)) ++ (x0.extract ((wrap64 (x4 + 2)) : Int).toNat x0.size))).bind fun t513 => (spec_l1Near.l0 k x0 t513 (wrap64 (x4 + 1)))) else (none)) else (none)) else (none)) else (none)) else (none)) else (none)) else (none)) else (none)) else (none)) else (none)) else (none)) else (spec_l1Near.l0 k x0 x3 (wrap64 (x4 + 1)))
end
def spec_l1Near.f (k : Nat) (a0 : ByteArray) : Option (List ByteArray) := spec_l1Near.l0 k a0 (([] : List ByteArray)) 0
def spec_l1Near.T8 : Bool × List (List Nat × List Nat) := (true, [([], []), ([], []), ([], []), ([], []), ([2, 3], [2, 3]), ([], []), ([5], [5]), ([6], [6]), ([7], [7]), ([4, 8], [4, 8]), ([], []), ([], []), ([10, 11], [10, 11]), ([9, 12], [9, 12]), ([0, 1, 13], [0, 1, 13]), ([14, 14, 0, 1, 2, 3, 4, 5, 6, 7, 8, 9, 10, 11, 12, 13, 14], [0, 14])])
def spec_l1Near.B8 : List Nat := [0, 0, 0, 0, 12, 0, 32, 96, 224, 508, 0, 0, 3072, 8188, 16383, 32767]
theorem spec_l1Near.tab8 : rtab .any (opsOf Try.f72 8) = spec_l1Near.T8 := by kernel_rfl
theorem spec_l1Near.bits8 : waitsOk spec_l1Near.T8.2 spec_l1Near.B8 = true := by kernel_rfl
def spec_l1Near.T10 : Bool × List (List Nat × List Nat) := (true, [([], []), ([], []), ([], []), ([], []), ([2, 3], [2, 3]), ([], []), ([5], [5]), ([6], [6]), ([7], [7]), ([4, 8], [4, 8]), ([], []), ([], []), ([11], [11]), ([10, 12], [10, 12]), ([9, 13], [9, 13]), ([0, 1, 14], [0, 1, 14]), ([15, 15, 0, 1, 2, 3, 4, 5, 6, 7, 8, 9, 10, 11, 12, 13, 14, 15], [0, 15])])
def spec_l1Near.B10 : List Nat := [0, 0, 0, 0, 12, 0, 32, 96, 224, 508, 0, 0, 2048, 7168, 16380, 32767, 65535]
theorem spec_l1Near.tab10 : rtab .any (opsOf Try.f72 10) = spec_l1Near.T10 := by kernel_rfl
theorem spec_l1Near.bits10 : waitsOk spec_l1Near.T10.2 spec_l1Near.B10 = true := by kernel_rfl
def spec_l1Near.T12 : Bool × List (List Nat × List Nat) := (true, [([], []), ([], []), ([], []), ([], []), ([2, 3], [2, 3]), ([], []), ([], []), ([6], [6]), ([5, 7], [5, 7]), ([4, 8], [4, 8]), ([0, 1, 9], [0, 1, 9]), ([10, 10, 0, 1, 2, 3, 4, 5, 6, 7, 8, 9, 10], [0, 10])])
def spec_l1Near.B12 : List Nat := [0, 0, 0, 0, 12, 0, 0, 64, 224, 508, 1023, 2047]
theorem spec_l1Near.tab12 : rtab .any (opsOf Try.f72 12) = spec_l1Near.T12 := by kernel_rfl
theorem spec_l1Near.bits12 : waitsOk spec_l1Near.T12.2 spec_l1Near.B12 = true := by kernel_rfl
def spec_l1Near.T14 : Bool × List (List Nat × List Nat) := (true, [([], []), ([], []), ([], []), ([], []), ([2, 3], [2, 3]), ([], []), ([], []), ([6], [6]), ([], []), ([8], [8]), ([5, 7, 9], [5, 7, 9]), ([4, 10], [4, 10]), ([], []), ([], []), ([], []), ([14], [14]), ([12, 13, 15], [12, 13, 15]), ([11, 16], [11, 16]), ([], []), ([], []), ([19], [19]), ([18, 20], [18, 20]), ([17, 21], [17, 21]), ([0, 1, 22], [0, 1, 22]), ([23, 23, 0, 1, 2, 3, 4, 5, 6, 7, 8, 9, 10, 11, 12, 13, 14, 15, 16, 17, 18, 19, 20, 21, 22, 23], [0, 23])])
def spec_l1Near.B14 : List Nat := [0, 0, 0, 0, 12, 0, 0, 64, 0, 256, 992, 2044, 0, 0, 0, 16384, 61440, 131068, 0, 0, 524288, 1835008, 4194300, 8388607, 16777215]
theorem spec_l1Near.tab14 : rtab .any (opsOf Try.f72 14) = spec_l1Near.T14 := by kernel_rfl
theorem spec_l1Near.bits14 : waitsOk spec_l1Near.T14.2 spec_l1Near.B14 = true := by kernel_rfl
theorem spec_l1Near.calls (k : Nat) (a0 : ByteArray) (r : List ByteArray) (w : World) (h : spec_l1Near.f k a0 = some r) :
  Calls Try.prog 72 #[.string a0] w fun e w' => ∃ v0_ : Value, e = .returned (v0_) ∧ Kd.V Kd.string 9 w' w.heap.size (fun k_ => (w.heap.size ≤ k_)) v0_ r ∧ Below w.heap.size w w' := by
 have HB := am (Below.refl w.heap.size w)
 have H := h; unfold spec_l1Near.f at H
 clear h; obtain ⟨y495, hy495⟩ : ∃ y_ : List ByteArray, y_ = (([] : List ByteArray)) := ⟨_, rfl⟩
 rw [← hy495] at H
 have Ny495 := am hy495; clear hy495
 have H' := am H
 clear H; go_enter Try.func72, Try.ntmps72
 go_wp2_with ((with_reducible refine gate_dst (N := 6) rfl ?_); refine Kd.R_lit Kd.string _ 9 ?hg (N := 6) ?hd (xs := ([] : List ByteArray)) (inner := []) (ok := fun _ => True) (okp := fun _ => True) ?hr ?hp (fun _ hk => hk) trivial (Below.refl _ _) (Nat.le_refl _) (by simp) ?_; (case hd => rfl); (case hg => rfl); (case hr => (go_simp; done)); (case hp => exact (Reps.none _ _)); intro v496 w2 ho3 hb hg_ hnew_; clear hg_ hnew_; (rw [← Ny495.out] at ho3); have HO497 := am (Kd.R_lower (Kd.R_newM (M := fun k_ => (w.heap.size ≤ k_)) ho3 (below_size bel) (fun k_ h_ => h_)) (below_size bel)); replace HB := am (below_step bel hb); clear hb ho3)
 go_loopg [3, 4] k (fun kq v3 v4 w' => ∃ (x3_1 : List ByteArray) (x4_1 : Int), v4 = .int .i64 x4_1 ∧ Aside0 (spec_l1Near.l0 kq a0 x3_1 x4_1 = some r) ∧ Aside0 (kq ≤ k) ∧ Aside0 (Kd.V Kd.string 9 w' w.heap.size (fun k_ => (w.heap.size ≤ k_)) v3 x3_1) ∧ Aside0 (Below w.heap.size w w'))
 case atStart => exact ⟨(y495), (0), sq, H', ⟨Nat.le_refl _⟩, ⟨Kd.R_V (rq (Kd.R_mono HO497.out (fun _ hk => hk.1)))⟩, ⟨bel⟩⟩
 case round =>
  clear H'; obtain ⟨x3_1, x4_1, rfl, HA, HK1, HO_3, HB⟩ := hrel
  cases gk with
  | zero => exact absurd HA.out (by simp [spec_l1Near.l0])
  | succ k1 =>
   have H := HA.out; clear HA; simp only [spec_l1Near.l0] at H
   by_cases c4 : x4_1 ≤ (a0.size : Int)
   ·rw [if_pos c4] at H; have c4b0 := decide_eq_true c4; clear c4
    have H' := am H
    clear H; go_wp2
    go_loopg [3, 5] k1 (fun kq v3 v5 w' => ∃ (x3_2 : List ByteArray) (x5_2 : Int), v5 = .int .i32 x5_2 ∧ Aside0 (spec_l1Near.l1 kq a0 x3_2 x4_1 x5_2 = some r) ∧ Aside0 (kq ≤ k1) ∧ Aside0 (Kd.V Kd.string 9 w' w.heap.size (fun k_ => (w.heap.size ≤ k_)) v3 x3_2) ∧ Aside0 (Below w.heap.size w w'))
    case atStart => exact ⟨(x3_1), (97), sq, H', ⟨Nat.le_refl _⟩, ⟨vq HO_3.out⟩, ⟨bel⟩⟩
    case round =>
     clear H'; clear c4b0; obtain ⟨x3_2, x5_2, rfl, HA, HK2, HO_3, HB⟩ := hrel
     cases gk with
     | zero => exact absurd HA.out (by simp [spec_l1Near.l1])
     | succ k2 =>
      have H := HA.out; clear HA; simp only [spec_l1Near.l1] at H
      by_cases c5 : x5_2 ≤ 122
      ·rw [if_pos c5] at H; have c5b0 := decide_eq_true c5; clear c5
       replace H := ip H; obtain ⟨c6, H⟩ := H; have c6b0 := eq_true c6
       have c6b1 : decide (0 ≤ x4_1) = true := decide_eq_true c6
       clear c6; replace H := ip H; obtain ⟨c7, H⟩ := H; have c7b0 := eq_true c7
       have c7b1 : decide (x4_1 ≤ (a0.size : Int)) = true := decide_eq_true c7
       clear c7; obtain ⟨y498, hy498⟩ : ∃ y_ : List Int, y_ = (([(x5_2) % 256] : List Int)) := ⟨_, rfl⟩
       replace H : (if (a0.extract 0 (x4_1 : Int).toNat).size + (strOfNums y498).size ≤ 9223372036854775807 then (if ((a0.extract 0 (x4_1 : Int).toNat) ++ (strOfNums y498)).size + (a0.extract (x4_1 : Int).toNat a0.size).size ≤ 9223372036854775807 then ((spec_l1Step.f k2 x3_2 a0 (((a0.extract 0 (x4_1 : Int).toNat) ++ (strOfNums y498)) ++ (a0.extract (x4_1 : Int).toNat a0.size))).bind fun t501 => (if x4_1 < (a0.size : Int) then ((some (([(x5_2) % 256] : List Int) : List Int)).bind fun y504 => (if (a0.extract 0 (x4_1 : Int).toNat).size + (strOfNums y504).size ≤ 9223372036854775807 then (if 0 ≤ (wrap64 (x4_1 + 1)) then (if (wrap64 (x4_1 + 1)) ≤ (a0.size : Int) then (if ((a0.extract 0 (x4_1 : Int).toNat) ++ (strOfNums y504)).size + (a0.extract ((wrap64 (x4_1 + 1)) : Int).toNat a0.size).size ≤ 9223372036854775807 then ((spec_l1Step.f k2 t501 a0 (((a0.extract 0 (x4_1 : Int).toNat) ++ (strOfNums y504)) ++ (a0.extract ((wrap64 (x4_1 + 1)) : Int).toNat a0.size))).bind fun t507 => (spec_l1Near.l1 k2 a0 t507 x4_1 (wrap32 (x5_2 + 1)))) else (none)) else (none)) else (none)) else (none))) else (spec_l1Near.l1 k2 a0 t501 x4_1 (wrap32 (x5_2 + 1))))) else (none)) else (none)) = some r := by (have H2_ := bm H; rw [hy498]; with_reducible exact H2_)
       have Ny498 := am hy498; clear hy498; replace H := ip H; obtain ⟨c8, H⟩ := H; have c8b0 := eq_true c8; have c8b5 := c8
       simp at c8b5
       have c8b4 := eq_false (Nat.not_lt.2 c8b5)
       try have c8b3 : (9223372036854775807 < (x4_1 : Int).toNat + (strOfNums y498).size) = False := by
             have h_ := c8
             simp only [ByteArray.size_append, ByteArray.size_extract] at h_
             have g0_ : (x4_1) ≤ (a0.size : Int) := of_decide_eq_true ad
             exact eq_false (by omega)
       have c8b1 : decide ((a0.extract 0 (x4_1 : Int).toNat).size + (strOfNums y498).size ≤ 9223372036854775807) = true := decide_eq_true c8
       have c8b2 : (9223372036854775807 < (a0.extract 0 (x4_1 : Int).toNat).size + (strOfNums y498).size) = False := eq_false (Nat.not_lt.2 c8)
       have c9b0 := eq_true (of_decide_eq_true ad : 0 ≤ x4_1); have c10b0 := eq_true (of_decide_eq_true ad : x4_1 ≤ (a0.size : Int)); replace H := ip H; obtain ⟨c11, H⟩ := H; have c11b0 := eq_true c11; have c11b5 := c11
       simp at c11b5
       have c11b4 := eq_false (Nat.not_lt.2 c11b5)
       try have c11b3 : (9223372036854775807 < (x4_1 : Int).toNat + (strOfNums y498).size + (a0.size - (x4_1 : Int).toNat)) = False := by
             have h_ := c11
             simp only [ByteArray.size_append, ByteArray.size_extract] at h_
             have g0_ : (x4_1) ≤ (a0.size : Int) := of_decide_eq_true ad
             exact eq_false (by omega)
       have c11b1 : decide (((a0.extract 0 (x4_1 : Int).toNat) ++ (strOfNums y498)).size + (a0.extract (x4_1 : Int).toNat a0.size).size ≤ 9223372036854775807) = true := decide_eq_true c11
       have c11b2 : (9223372036854775807 < ((a0.extract 0 (x4_1 : Int).toNat) ++ (strOfNums y498)).size + (a0.extract (x4_1 : Int).toNat a0.size).size) = False := eq_false (Nat.not_lt.2 c11)
       replace H := bs H; obtain ⟨t501, A120, H⟩ := H; have A12 := Aside0.mk A120; clear A120
       by_cases c13 : x4_1 < (a0.size : Int)
       ·rw [if_pos c13] at H; have c13b0 := decide_eq_true c13; clear c13; have c14b0 := eq_true (of_decide_eq_true ad : 0 ≤ x4_1); have c15b0 := eq_true (of_decide_eq_true ad : x4_1 ≤ (a0.size : Int)); obtain ⟨y504, hy504⟩ : ∃ y_ : List Int, y_ = (([(x5_2) % 256] : List Int)) := ⟨_, rfl⟩
        replace H := bm H; rw [← hy504] at H
        have Ny504 := am hy504; clear hy504; replace H := ip H; obtain ⟨c16, H⟩ := H; have c16b0 := eq_true c16; have c16b5 := c16
        simp at c16b5
        have c16b4 := eq_false (Nat.not_lt.2 c16b5)
        try have c16b3 : (9223372036854775807 < (x4_1 : Int).toNat + (strOfNums y504).size) = False := by
              have h_ := c16
              simp only [ByteArray.size_append, ByteArray.size_extract] at h_
              have g0_ : (x4_1) ≤ (a0.size : Int) := of_decide_eq_true ad
              exact eq_false (by omega)
        have c16b1 : decide ((a0.extract 0 (x4_1 : Int).toNat).size + (strOfNums y504).size ≤ 9223372036854775807) = true := decide_eq_true c16
        have c16b2 : (9223372036854775807 < (a0.extract 0 (x4_1 : Int).toNat).size + (strOfNums y504).size) = False := eq_false (Nat.not_lt.2 c16)
        obtain ⟨ji17, hji17⟩ : ∃ j_ : Int, (wrap64 (x4_1 + 1)) = j_ := ⟨_, rfl⟩
        rw [hji17] at H
        have hji17w : (IntKind.i64.wrap (x4_1 + 1)) = ji17 := (i64_w _).trans hji17
        replace H := ip H; obtain ⟨c18, H⟩ := H; have c18b0 := eq_true c18
        have c18b1 : decide (0 ≤ (ji17)) = true := decide_eq_true c18
        clear c18; replace H := ip H; obtain ⟨c19, H⟩ := H; have c19b0 := eq_true c19
        have c19b1 : decide ((ji17) ≤ (a0.size : Int)) = true := decide_eq_true c19
        clear c19; replace H := ip H; obtain ⟨c20, H⟩ := H; have c20b0 := eq_true c20; have c20b5 := c20
        simp at c20b5
        have c20b4 := eq_false (Nat.not_lt.2 c20b5)
        try have c20b3 : (9223372036854775807 < (x4_1 : Int).toNat + (strOfNums y504).size + (a0.size - ((ji17) : Int).toNat)) = False := by
              have h_ := c20
              simp only [ByteArray.size_append, ByteArray.size_extract] at h_
              have g0_ : (x4_1) ≤ (a0.size : Int) := of_decide_eq_true ad
              exact eq_false (by omega)
        have c20b1 : decide (((a0.extract 0 (x4_1 : Int).toNat) ++ (strOfNums y504)).size + (a0.extract ((ji17) : Int).toNat a0.size).size ≤ 9223372036854775807) = true := decide_eq_true c20
        have c20b2 : (9223372036854775807 < ((a0.extract 0 (x4_1 : Int).toNat) ++ (strOfNums y504)).size + (a0.extract ((ji17) : Int).toNat a0.size).size) = False := eq_false (Nat.not_lt.2 c20)
        replace H := bs H; obtain ⟨t507, A210, H⟩ := H; have A21 := Aside0.mk A210; clear A210
        have H' := am H
        clear H
        try go_wp2
        replace HO_3 := am (Kd.V_drew HO_3.out); replace HB := am (below_drew1 HB.out)
        refine st (n := 16) (S := fun w' => True) (ds := []) trivial (fun hHeld => ?_); refine with_tabW spec_l1Near.tab8 spec_l1Near.bits8 (fun HT_ HW_ => ?_)
        generalize wr.drew = w22 at HO_3 HB hHeld ⊢; refine pu 0 17 ?_; refine pu 1 18 ?_; refine pu 2 19 ?_; refine pu 3 20 ?_; refine pu 4 21 ?_; refine pu 5 22 ?_; refine pu 6 23 ?_; refine pu 10 27 ?_; refine pu 11 28 ?_; refine pu 12 29 ?_; refine on1 7 24 (fun K hK => ?_)
        refine Kd.R_lit_step (Kd.int .u8) _ 5 ?hg (N := 24) ?hd (xs := ([(x5_2) % 256] : List Int)) (inner := [.int .u8 ((x5_2) % 256)]) (ok := fun _ => True) (okp := fun _ => True) ?hr ?hp (fun _ hk => hk) trivial (Below.refl _ _) (Nat.le_refl _) (by simp) ?_; (case hd => rfl); (case hg => rfl); (case hr => (go_simp; rfl)); (case hp => exact (Reps.one (show Kd.M (Kd.int .u8) _ _ _ ((x5_2) % 256) [.int .u8 ((x5_2) % 256)] from rfl) (Reps.none _ _)))
        intro v499 w23 ho24 hb hg_ hnew_; clear hg_ hnew_
        (rw [← Ny498.out] at ho24)
        replace HO_3 := am (Kd.V_elder' (vq HO_3.out) (Kd.R_base ho24) hb); have HO500 := am (Kd.R_lower (Kd.R_newM (M := fun k_ => (w.heap.size ≤ k_)) ho24 (below_size bel) (fun k_ h_ => h_)) (below_size bel)); replace HB := am (below_step bel hb); clear hb ho24; obtain ⟨Ao26, co26, eo26⟩ := Kd.V_slice HO_3.out
        (subst eo26)
        refine hK.out _ _ trivial (fun hHeld => ?_); clear hK K; refine nm 24 ?_; refine on1 8 25 (fun K hK => ?_); have hcv25 := own_string (P := Try.prog) Try.underlying41 Try.underlying5 Try.underlying9 (Kd.own_of_R HO500.out)
        refine value_ (w1 := ?_) (v := ?_) (by rfl) rfl ?_ ?_
        rotate_left 2
        ·go_simp
         constructor
         ·rfl
         ·rfl
        clear hcv25; refine hK.out _ _ trivial (fun hHeld => ?_); clear hK K; refine nm 25 ?_; refine pu 9 26 ?_; refine pu 13 30 ?_; refine on1 14 31 (fun K hK => ?_)
        refine go1 Try.func108 #[.slice Ao26 x3_2.length co26, .string a0, .string (((a0.extract 0 (x4_1 : Int).toNat) ++ (strOfNums y498)) ++ (a0.extract (x4_1 : Int).toNat a0.size))] ?_
        with_reducible refine (spec_l1Step.calls k2 (fun k_ => ((w.heap.size ≤ k_) ∧ some k_ ≠ (v499 : Value).ownBlock)) _ _ x3_2 a0 (((a0.extract 0 (x4_1 : Int).toNat) ++ (strOfNums y498)) ++ (a0.extract (x4_1 : Int).toNat a0.size)) t501 _ ?side1 A12.out).mono ?_
        (case side1 => exact HO_3.out)
        rintro e w27 ⟨v502, rfl, ho0, hb⟩; refine ⟨_, rfl, ?_⟩
        replace HO_3 := am (Kd.V_below (vq HO_3.out) hb); have HO503 := am (Kd.V_lower (Kd.V_mono (ok' := fun k_ => (w.heap.size ≤ k_) ∧ some k_ ≠ (v499 : Value).ownBlock) ho0 (fun k_ hk_ => ⟨Or.elim hk_ (fun hs_ => hs_.1) (fun hn_ => (Nat.le_trans (below_size bel) hn_)), Or.elim hk_ (fun hs_ => hs_.2) (fun hn_ => (Kd.fresh' (Kd.R_lt (rq HO500.out)) k_ hn_))⟩)) (below_size bel)); replace HO500 := am (Kd.R_below (rq HO500.out) hb); replace HB := am (below_step bel hb)
        clear hb ho0; refine hK.out _ _ trivial (fun hHeld => ?_); clear hK K; refine nm 31 ?_; refine pu 15 3 ?_
        refine done_ (done_of HT_.out (by kernel_rfl)) ?_
        try go_wp2
        replace HO_3 := am (Kd.V_drew HO_3.out); replace HO500 := am (Kd.R_drew HO500.out); replace HO503 := am (Kd.V_drew HO503.out); replace HB := am (below_drew1 HB.out)
        refine st (n := 17) (S := fun w' => True) (ds := []) trivial (fun hHeld => ?_); refine with_tabW spec_l1Near.tab10 spec_l1Near.bits10 (fun HT_ HW_ => ?_)
        generalize w27.drew = w28 at HO_3 HO500 HO503 HB hHeld ⊢; refine pu 0 36 ?_; refine pu 1 37 ?_; refine pu 2 38 ?_; refine pu 3 39 ?_; refine pu 4 40 ?_; refine pu 5 41 ?_; refine pu 6 42 ?_; refine pu 10 46 ?_; refine pu 11 47 ?_; refine pu 12 48 ?_; refine pu 13 49 ?_; refine on1 7 43 (fun K hK => ?_)
        refine Kd.R_lit_step (Kd.int .u8) _ 5 ?hg (N := 43) ?hd (xs := ([(x5_2) % 256] : List Int)) (inner := [.int .u8 ((x5_2) % 256)]) (ok := fun _ => True) (okp := fun _ => True) ?hr ?hp (fun _ hk => hk) trivial (Below.refl _ _) (Nat.le_refl _) (by simp) ?_; (case hd => rfl); (case hg => rfl); (case hr => (go_simp; rfl)); (case hp => exact (Reps.one (show Kd.M (Kd.int .u8) _ _ _ ((x5_2) % 256) [.int .u8 ((x5_2) % 256)] from rfl) (Reps.none _ _)))
        intro v505 w29 ho30 hb hg_ hnew_; clear hg_ hnew_
        (rw [← Ny504.out] at ho30)
        replace HO_3 := am (Kd.V_elder' (vq HO_3.out) (Kd.R_base ho30) hb); replace HO503 := am (Kd.V_elder' (vq HO503.out) (Kd.R_base ho30) hb); have HO506 := am (Kd.R_lower (Kd.R_new' (Kd.R_newM (M := fun k_ => (w.heap.size ≤ k_)) ho30 (below_size bel) (fun k_ h_ => h_)) (Kd.R_lt (rq HO500.out))) (below_size bel)); replace HO500 := am (Kd.R_elder' (rq HO500.out) (Kd.R_base ho30) hb); replace HB := am (below_step bel hb); clear hb ho30; obtain ⟨Ao32, co32, eo32⟩ := Kd.V_slice HO503.out
        (subst eo32)
        refine hK.out _ _ trivial (fun hHeld => ?_); clear hK K; refine nm 43 ?_; refine on1 8 44 (fun K hK => ?_); have hcv31 := own_string (P := Try.prog) Try.underlying41 Try.underlying5 Try.underlying9 (Kd.own_of_R HO506.out)
        refine value_ (w1 := ?_) (v := ?_) (by rfl) rfl ?_ ?_
        rotate_left 2
        ·go_simp
         constructor
         ·rfl
         ·rfl
        clear hcv31; refine hK.out _ _ trivial (fun hHeld => ?_); clear hK K; refine nm 44 ?_; refine pu 9 45 ?_; refine pu 14 50 ?_; refine on1 15 51 (fun K hK => ?_)
        refine goes_ Try.func108 (by kernel_rfl) rfl #[.slice Ao32 t501.length co32, .string a0, .string (((a0.extract 0 (x4_1 : Int).toNat) ++ (strOfNums y504)) ++ (a0.extract ((ji17) : Int).toNat a0.size))] (by rfl) rfl rfl (by simp only [List.map_toArray, List.map_cons, List.map_nil]; rfl) ?_
        with_reducible refine (spec_l1Step.calls k2 (fun k_ => (((w.heap.size ≤ k_) ∧ some k_ ≠ (v499 : Value).ownBlock) ∧ some k_ ≠ (v505 : Value).ownBlock)) _ _ t501 a0 (((a0.extract 0 (x4_1 : Int).toNat) ++ (strOfNums y504)) ++ (a0.extract ((ji17) : Int).toNat a0.size)) t507 _ ?side1 A21.out).mono ?_
        (case side1 => exact HO503.out)
        rintro e w33 ⟨v508, rfl, ho0, hb⟩; refine ⟨_, rfl, ?_⟩
        replace HO_3 := am (Kd.V_below (vq HO_3.out) hb); replace HO503 := am (Kd.V_below (vq HO503.out) hb); have HO509 := am (Kd.V_lower (Kd.V_mono (ok' := fun k_ => (w.heap.size ≤ k_) ∧ some k_ ≠ (v499 : Value).ownBlock ∧ some k_ ≠ (v505 : Value).ownBlock) ho0 (fun k_ hk_ => ⟨Or.elim hk_ (fun hs_ => hs_.1.1) (fun hn_ => (Nat.le_trans (below_size bel) hn_)), Or.elim hk_ (fun hs_ => hs_.1.2) (fun hn_ => (Kd.fresh' (Kd.R_lt (rq HO500.out)) k_ hn_)), Or.elim hk_ (fun hs_ => hs_.2) (fun hn_ => (Kd.fresh' (Kd.R_lt (rq HO506.out)) k_ hn_))⟩)) (below_size bel)); replace HO500 := am (Kd.R_below (rq HO500.out) hb); replace HO506 := am (Kd.R_below (rq HO506.out) hb); replace HB := am (below_step bel hb)
        clear hb ho0; refine hK.out _ _ trivial (fun hHeld => ?_); clear hK K; refine nm 51 ?_; refine pu 16 3 ?_
        refine done_ (done_of HT_.out (by kernel_rfl)) ?_
        try go_wp2
        go_roundg k2
        case measure => have := HK1.out; have := HK2.out; omega
        case rel => exact ⟨(t507), (wrap32 (x5_2 + 1)), sq, H', ⟨b30_⟩, ⟨vq (Kd.V_mono HO509.out (fun _ hk => hk.1))⟩, ⟨bel⟩⟩
       rw [if_neg c13] at H; have c13b0 := decide_eq_false c13; clear c13
       have H' := am H
       clear H
       try go_wp2
       replace HO_3 := am (Kd.V_drew HO_3.out); replace HB := am (below_drew1 HB.out)
       refine st (n := 16) (S := fun w' => True) (ds := []) trivial (fun hHeld => ?_); refine with_tabW spec_l1Near.tab8 spec_l1Near.bits8 (fun HT_ HW_ => ?_)
       generalize wr.drew = w34 at HO_3 HB hHeld ⊢; refine pu 0 17 ?_; refine pu 1 18 ?_; refine pu 2 19 ?_; refine pu 3 20 ?_; refine pu 4 21 ?_; refine pu 5 22 ?_; refine pu 6 23 ?_; refine pu 10 27 ?_; refine pu 11 28 ?_; refine pu 12 29 ?_; refine on1 7 24 (fun K hK => ?_)
       refine Kd.R_lit_step (Kd.int .u8) _ 5 ?hg (N := 24) ?hd (xs := ([(x5_2) % 256] : List Int)) (inner := [.int .u8 ((x5_2) % 256)]) (ok := fun _ => True) (okp := fun _ => True) ?hr ?hp (fun _ hk => hk) trivial (Below.refl _ _) (Nat.le_refl _) (by simp) ?_; (case hd => rfl); (case hg => rfl); (case hr => (go_simp; rfl)); (case hp => exact (Reps.one (show Kd.M (Kd.int .u8) _ _ _ ((x5_2) % 256) [.int .u8 ((x5_2) % 256)] from rfl) (Reps.none _ _)))
       intro v499 w35 ho36 hb hg_ hnew_; clear hg_ hnew_
       (rw [← Ny498.out] at ho36)
       replace HO_3 := am (Kd.V_elder' (vq HO_3.out) (Kd.R_base ho36) hb); have HO500 := am (Kd.R_lower (Kd.R_newM (M := fun k_ => (w.heap.size ≤ k_)) ho36 (below_size bel) (fun k_ h_ => h_)) (below_size bel)); replace HB := am (below_step bel hb); clear hb ho36; obtain ⟨Ao38, co38, eo38⟩ := Kd.V_slice HO_3.out
       (subst eo38)
       refine hK.out _ _ trivial (fun hHeld => ?_); clear hK K; refine nm 24 ?_; refine on1 8 25 (fun K hK => ?_); have hcv37 := own_string (P := Try.prog) Try.underlying41 Try.underlying5 Try.underlying9 (Kd.own_of_R HO500.out)
       refine value_ (w1 := ?_) (v := ?_) (by rfl) rfl ?_ ?_
       rotate_left 2
       ·go_simp
        constructor
        ·rfl
        ·rfl
       clear hcv37; refine hK.out _ _ trivial (fun hHeld => ?_); clear hK K; refine nm 25 ?_; refine pu 9 26 ?_; refine pu 13 30 ?_; refine on1 14 31 (fun K hK => ?_)
       refine go1 Try.func108 #[.slice Ao38 x3_2.length co38, .string a0, .string (((a0.extract 0 (x4_1 : Int).toNat) ++ (strOfNums y498)) ++ (a0.extract (x4_1 : Int).toNat a0.size))] ?_
       with_reducible refine (spec_l1Step.calls k2 (fun k_ => ((w.heap.size ≤ k_) ∧ some k_ ≠ (v499 : Value).ownBlock)) _ _ x3_2 a0 (((a0.extract 0 (x4_1 : Int).toNat) ++ (strOfNums y498)) ++ (a0.extract (x4_1 : Int).toNat a0.size)) t501 _ ?side1 A12.out).mono ?_
       (case side1 => exact HO_3.out)
       rintro e w39 ⟨v502, rfl, ho0, hb⟩; refine ⟨_, rfl, ?_⟩
       replace HO_3 := am (Kd.V_below (vq HO_3.out) hb); have HO503 := am (Kd.V_lower (Kd.V_mono (ok' := fun k_ => (w.heap.size ≤ k_) ∧ some k_ ≠ (v499 : Value).ownBlock) ho0 (fun k_ hk_ => ⟨Or.elim hk_ (fun hs_ => hs_.1) (fun hn_ => (Nat.le_trans (below_size bel) hn_)), Or.elim hk_ (fun hs_ => hs_.2) (fun hn_ => (Kd.fresh' (Kd.R_lt (rq HO500.out)) k_ hn_))⟩)) (below_size bel)); replace HO500 := am (Kd.R_below (rq HO500.out) hb); replace HB := am (below_step bel hb)
       clear hb ho0; refine hK.out _ _ trivial (fun hHeld => ?_); clear hK K; refine nm 31 ?_; refine pu 15 3 ?_
       refine done_ (done_of HT_.out (by kernel_rfl)) ?_
       try go_wp2
       go_roundg k2
       case measure => have := HK1.out; have := HK2.out; omega
       case rel => exact ⟨(t501), (wrap32 (x5_2 + 1)), sq, H', ⟨b30_⟩, ⟨vq (Kd.V_mono HO503.out (fun _ hk => hk.1))⟩, ⟨bel⟩⟩
      rw [if_neg c5] at H; have c5b0 := decide_eq_false c5; clear c5; have HC40 := am H; clear H
      go_upto_if 55 with (fail)
      go_cut [3] (fun v3 wc => ∃ (kq : Nat) (x3_39 : List ByteArray), Aside0 (spec_l1Near.j2 kq a0 x3_39 x4_1 = some r) ∧ Aside0 (kq ≤ k2) ∧ Aside0 (Kd.V Kd.string 9 wc w.heap.size (fun k_ => (w.heap.size ≤ k_)) v3 x3_39) ∧ Aside0 (Below w.heap.size w wc))
      case first =>
       have H := HC40.out; clear HC40
       by_cases c41 : x4_1 < (a0.size : Int)
       ·rw [if_pos c41] at H; have c41b0 := decide_eq_true c41; clear c41
        (rw [c41b0])
        replace H := ip H; obtain ⟨c42, H⟩ := H; have c42b0 := eq_true c42
        have c42b1 : decide (0 ≤ x4_1) = true := decide_eq_true c42
        clear c42; replace H := ip H; obtain ⟨c43, H⟩ := H; have c43b0 := eq_true c43
        have c43b1 : decide (x4_1 ≤ (a0.size : Int)) = true := decide_eq_true c43
        clear c43; obtain ⟨ji44, hji44⟩ : ∃ j_ : Int, (wrap64 (x4_1 + 1)) = j_ := ⟨_, rfl⟩
        rw [hji44] at H
        have hji44w : (IntKind.i64.wrap (x4_1 + 1)) = ji44 := (i64_w _).trans hji44
        replace H := ip H; obtain ⟨c45, H⟩ := H; have c45b0 := eq_true c45
        have c45b1 : decide (0 ≤ (ji44)) = true := decide_eq_true c45
        clear c45; replace H := ip H; obtain ⟨c46, H⟩ := H; have c46b0 := eq_true c46
        have c46b1 : decide ((ji44) ≤ (a0.size : Int)) = true := decide_eq_true c46
        clear c46; replace H := ip H; obtain ⟨c47, H⟩ := H; have c47b0 := eq_true c47; have c47b5 := c47
        simp at c47b5
        have c47b4 := eq_false (Nat.not_lt.2 c47b5)
        try have c47b3 : (9223372036854775807 < (x4_1 : Int).toNat + (a0.size - ((ji44) : Int).toNat)) = False := by
              have h_ := c47
              simp only [ByteArray.size_append, ByteArray.size_extract] at h_
              have g0_ : (x4_1) ≤ (a0.size : Int) := of_decide_eq_true ad
              exact eq_false (by omega)
        have c47b1 : decide ((a0.extract 0 (x4_1 : Int).toNat).size + (a0.extract ((ji44) : Int).toNat a0.size).size ≤ 9223372036854775807) = true := decide_eq_true c47
        have c47b2 : (9223372036854775807 < (a0.extract 0 (x4_1 : Int).toNat).size + (a0.extract ((ji44) : Int).toNat a0.size).size) = False := eq_false (Nat.not_lt.2 c47)
        replace H := bs H; obtain ⟨t510, A480, H⟩ := H; have A48 := Aside0.mk A480; clear A480
        have H' := am H
        clear H
        try go_wp2
        replace HO_3 := am (Kd.V_drew HO_3.out); replace HB := am (below_drew1 HB.out); obtain ⟨Ao50, co50, eo50⟩ := Kd.V_slice HO_3.out
        (subst eo50)
        refine st (n := 12) (S := fun w' => True) (ds := []) trivial (fun hHeld => ?_); refine with_tabW spec_l1Near.tab12 spec_l1Near.bits12 (fun HT_ HW_ => ?_)
        generalize wr.drew = w49 at HO_3 HB hHeld ⊢; refine pu 0 56 ?_; refine pu 1 57 ?_; refine pu 2 58 ?_; refine pu 3 59 ?_; refine pu 4 60 ?_; refine pu 5 61 ?_; refine pu 6 62 ?_; refine pu 7 63 ?_; refine pu 8 64 ?_; refine pu 9 65 ?_; refine on1 10 66 (fun K hK => ?_)
        refine goes_ Try.func108 (by kernel_rfl) rfl #[.slice Ao50 x3_2.length co50, .string a0, .string ((a0.extract 0 (x4_1 : Int).toNat) ++ (a0.extract ((ji44) : Int).toNat a0.size))] (by rfl) rfl rfl (by simp only [List.map_toArray, List.map_cons, List.map_nil]; rfl) ?_
        with_reducible refine (spec_l1Step.calls k2 (fun k_ => (w.heap.size ≤ k_)) _ _ x3_2 a0 ((a0.extract 0 (x4_1 : Int).toNat) ++ (a0.extract ((ji44) : Int).toNat a0.size)) t510 _ ?side1 A48.out).mono ?_
        (case side1 => exact HO_3.out)
        rintro e w51 ⟨v511, rfl, ho0, hb⟩; refine ⟨_, rfl, ?_⟩
        replace HO_3 := am (Kd.V_below (vq HO_3.out) hb); have HO512 := am (Kd.V_lower (Kd.V_mono (ok' := fun k_ => (w.heap.size ≤ k_)) ho0 (fun k_ hk_ => Or.elim hk_ (fun hs_ => hs_) (fun hn_ => (Nat.le_trans (below_size bel) hn_)))) (below_size bel)); replace HB := am (below_step bel hb)
        clear hb ho0; refine hK.out _ _ trivial (fun hHeld => ?_); clear hK K; refine nm 66 ?_; refine pu 11 3 ?_
        refine done_ (done_of HT_.out (by kernel_rfl)) ?_
        try go_wp2
        go_meet
        case rel => exact ⟨_, (t510), H', ⟨b82_⟩, ⟨vq HO512.out⟩, ⟨bel⟩⟩
       rw [if_neg c41] at H; have c41b0 := decide_eq_false c41; clear c41
       (rw [c41b0])
       have H' := am H
       clear H; go_wp2
       go_meet
       case rel => exact ⟨_, (x3_2), H', ⟨b82_⟩, ⟨vq HO_3.out⟩, ⟨bel⟩⟩
      case rest =>
       clear HC40; clear c5b0; obtain ⟨kq, x3_39, HA, HJ39, HO_3, HB⟩ := hcut
       cases kq with
       | zero => exact absurd HA.out (by simp [spec_l1Near.j2])
       | succ kj39 =>
        have H := HA.out; clear HA; simp only [spec_l1Near.j2] at H
        by_cases c52 : (wrap64 (x4_1 + 1)) < (a0.size : Int)
        ·rw [if_pos c52] at H; have c52b0 := decide_eq_true c52; clear c52
         replace H := ip H; obtain ⟨c53, H⟩ := H; have c53b0 := eq_true c53
         have c53b1 : decide (0 ≤ x4_1) = true := decide_eq_true c53
         clear c53; replace H := ip H; obtain ⟨c54, H⟩ := H; have c54b0 := eq_true c54
         have c54b1 : decide (x4_1 ≤ (a0.size : Int)) = true := decide_eq_true c54
         clear c54; obtain ⟨ji55, hji55⟩ : ∃ j_ : Int, (wrap64 (x4_1 + 1)) = j_ := ⟨_, rfl⟩
         rw [hji55] at H
         rw [hji55] at c52b0
         have hji55w : (IntKind.i64.wrap (x4_1 + 1)) = ji55 := (i64_w _).trans hji55
         replace H := ip H; obtain ⟨c56, H⟩ := H; have c56b0 := eq_true c56
         have c56b1 : decide (0 ≤ (ji55)) = true := decide_eq_true c56
         clear c56; replace H := ip H; obtain ⟨c57, H⟩ := H; have c57b0 := eq_true c57
         have c57b1 : decide ((ji55) ≤ (wrap64 (x4_1 + 2))) = true := decide_eq_true c57
         replace H := ip H; obtain ⟨c58, H⟩ := H; have c58b0 := eq_true c58
         have c58b1 : decide ((wrap64 (x4_1 + 2)) ≤ (a0.size : Int)) = true := decide_eq_true c58
         replace H := ip H; obtain ⟨c59, H⟩ := H; have c59b0 := eq_true c59; have c59b5 := c59
         simp at c59b5
         have c59b4 := eq_false (Nat.not_lt.2 c59b5)
         try have c59b3 : (9223372036854775807 < (x4_1 : Int).toNat + (((wrap64 (x4_1 + 2)) : Int).toNat - ((ji55) : Int).toNat)) = False := by
               have h_ := c59
               simp only [ByteArray.size_append, ByteArray.size_extract] at h_
               have g0_ : (x4_1) ≤ (a0.size : Int) := of_decide_eq_true ad
               have g1_ : ((wrap64 (x4_1 + 2))) ≤ (a0.size : Int) := of_decide_eq_true ad
               exact eq_false (by omega)
         have c59b1 : decide ((a0.extract 0 (x4_1 : Int).toNat).size + (a0.extract ((ji55) : Int).toNat ((wrap64 (x4_1 + 2)) : Int).toNat).size ≤ 9223372036854775807) = true := decide_eq_true c59
         have c59b2 : (9223372036854775807 < (a0.extract 0 (x4_1 : Int).toNat).size + (a0.extract ((ji55) : Int).toNat ((wrap64 (x4_1 + 2)) : Int).toNat).size) = False := eq_false (Nat.not_lt.2 c59)
         have c60b0 := eq_true (of_decide_eq_true ad : 0 ≤ x4_1); replace H := ip H; obtain ⟨c61, H⟩ := H; have c61b0 := eq_true c61
         have c61b1 : decide (x4_1 ≤ (ji55)) = true := decide_eq_true c61
         clear c61; replace H := ip H; obtain ⟨c62, H⟩ := H; have c62b0 := eq_true c62
         have c62b1 : decide ((ji55) ≤ (a0.size : Int)) = true := decide_eq_true c62
         clear c62; replace H := ip H; obtain ⟨c63, H⟩ := H; have c63b0 := eq_true c63; have c63b5 := c63
         simp at c63b5
         have c63b4 := eq_false (Nat.not_lt.2 c63b5)
         try have c63b3 : (9223372036854775807 < (x4_1 : Int).toNat + (((wrap64 (x4_1 + 2)) : Int).toNat - ((ji55) : Int).toNat) + (((ji55) : Int).toNat - (x4_1 : Int).toNat)) = False := by
               have h_ := c63
               simp only [ByteArray.size_append, ByteArray.size_extract] at h_
               have g0_ : (x4_1) ≤ (a0.size : Int) := of_decide_eq_true ad
               have g1_ : ((wrap64 (x4_1 + 2))) ≤ (a0.size : Int) := of_decide_eq_true ad
               have g2_ : ((ji55)) ≤ (a0.size : Int) := of_decide_eq_true ad
               exact eq_false (by omega)
         have c63b1 : decide (((a0.extract 0 (x4_1 : Int).toNat) ++ (a0.extract ((ji55) : Int).toNat ((wrap64 (x4_1 + 2)) : Int).toNat)).size + (a0.extract (x4_1 : Int).toNat ((ji55) : Int).toNat).size ≤ 9223372036854775807) = true := decide_eq_true c63
         have c63b2 : (9223372036854775807 < ((a0.extract 0 (x4_1 : Int).toNat) ++ (a0.extract ((ji55) : Int).toNat ((wrap64 (x4_1 + 2)) : Int).toNat)).size + (a0.extract (x4_1 : Int).toNat ((ji55) : Int).toNat).size) = False := eq_false (Nat.not_lt.2 c63)
         obtain ⟨ji64, hji64⟩ : ∃ j_ : Int, (wrap64 (x4_1 + 2)) = j_ := ⟨_, rfl⟩
         rw [hji64] at H
         rw [hji64] at c57b0
         rw [hji64] at c57b1
         rw [hji64] at c57
         rw [hji64] at c58b0
         rw [hji64] at c58b1
         rw [hji64] at c58
         rw [hji64] at c59b0
         rw [hji64] at c59b3
         rw [hji64] at c59b4
         rw [hji64] at c59b5
         rw [hji64] at c59b1
         rw [hji64] at c59
         rw [hji64] at c63b0
         rw [hji64] at c63b3
         rw [hji64] at c63b4
         rw [hji64] at c63b5
         rw [hji64] at c63b1
         rw [hji64] at c63
         have hji64w : (IntKind.i64.wrap (x4_1 + 2)) = ji64 := (i64_w _).trans hji64
         replace H := ip H; obtain ⟨c65, H⟩ := H; have c65b0 := eq_true c65
         have c65b1 : decide (0 ≤ (ji64)) = true := decide_eq_true c65
         clear c65; have c66b0 := eq_true (of_decide_eq_true ad : (ji64) ≤ (a0.size : Int)); replace H := ip H; obtain ⟨c67, H⟩ := H; have c67b0 := eq_true c67; have c67b5 := c67
         simp at c67b5
         have c67b4 := eq_false (Nat.not_lt.2 c67b5)
         try have c67b3 : (9223372036854775807 < (x4_1 : Int).toNat + (((ji64) : Int).toNat - ((ji55) : Int).toNat) + (((ji55) : Int).toNat - (x4_1 : Int).toNat) + (a0.size - ((ji64) : Int).toNat)) = False := by
               have h_ := c67
               simp only [ByteArray.size_append, ByteArray.size_extract] at h_
               have g0_ : (x4_1) ≤ (a0.size : Int) := of_decide_eq_true ad
               have g1_ : ((ji64)) ≤ (a0.size : Int) := of_decide_eq_true ad
               have g2_ : ((ji55)) ≤ (a0.size : Int) := of_decide_eq_true ad
               exact eq_false (by omega)
         have c67b1 : decide ((((a0.extract 0 (x4_1 : Int).toNat) ++ (a0.extract ((ji55) : Int).toNat ((ji64) : Int).toNat)) ++ (a0.extract (x4_1 : Int).toNat ((ji55) : Int).toNat)).size + (a0.extract ((ji64) : Int).toNat a0.size).size ≤ 9223372036854775807) = true := decide_eq_true c67
         have c67b2 : (9223372036854775807 < (((a0.extract 0 (x4_1 : Int).toNat) ++ (a0.extract ((ji55) : Int).toNat ((ji64) : Int).toNat)) ++ (a0.extract (x4_1 : Int).toNat ((ji55) : Int).toNat)).size + (a0.extract ((ji64) : Int).toNat a0.size).size) = False := eq_false (Nat.not_lt.2 c67)
         replace H := bs H; obtain ⟨t513, A680, H⟩ := H; have A68 := Aside0.mk A680; clear A680
         have H' := am H
         clear H
         try go_wp2
         replace HO_3 := am (Kd.V_drew HO_3.out); replace HB := am (below_drew1 HB.out); obtain ⟨Ao70, co70, eo70⟩ := Kd.V_slice HO_3.out
         (subst eo70)
         refine st (n := 25) (S := fun w' => True) (ds := []) trivial (fun hHeld => ?_); refine with_tabW spec_l1Near.tab14 spec_l1Near.bits14 (fun HT_ HW_ => ?_)
         generalize wc.drew = w69 at HO_3 HB hHeld ⊢; refine pu 0 72 ?_; refine pu 1 73 ?_; refine pu 2 74 ?_; refine pu 3 75 ?_; refine pu 4 76 ?_; refine pu 5 77 ?_; refine pu 6 78 ?_; refine pu 7 79 ?_; refine pu 8 80 ?_; refine pu 9 81 ?_; refine pu 10 82 ?_; refine pu 11 83 ?_; refine pu 12 84 ?_; refine pu 13 85 ?_; refine pu 14 86 ?_; refine pu 15 87 ?_; refine pu 16 88 ?_; refine pu 17 89 ?_; refine pu 18 90 ?_; refine pu 19 91 ?_; refine pu 20 92 ?_; refine pu 21 93 ?_; refine pu 22 94 ?_; refine on1 23 95 (fun K hK => ?_)
         refine goes_ Try.func108 (by kernel_rfl) rfl #[.slice Ao70 x3_39.length co70, .string a0, .string ((((a0.extract 0 (x4_1 : Int).toNat) ++ (a0.extract ((ji55) : Int).toNat ((ji64) : Int).toNat)) ++ (a0.extract (x4_1 : Int).toNat ((ji55) : Int).toNat)) ++ (a0.extract ((ji64) : Int).toNat a0.size))] (by rfl) rfl rfl (by simp only [List.map_toArray, List.map_cons, List.map_nil]; rfl) ?_
         with_reducible refine (spec_l1Step.calls kj39 (fun k_ => (w.heap.size ≤ k_)) _ _ x3_39 a0 ((((a0.extract 0 (x4_1 : Int).toNat) ++ (a0.extract ((ji55) : Int).toNat ((ji64) : Int).toNat)) ++ (a0.extract (x4_1 : Int).toNat ((ji55) : Int).toNat)) ++ (a0.extract ((ji64) : Int).toNat a0.size)) t513 _ ?side1 A68.out).mono ?_
         (case side1 => exact HO_3.out)
         rintro e w71 ⟨v514, rfl, ho0, hb⟩; refine ⟨_, rfl, ?_⟩
         replace HO_3 := am (Kd.V_below (vq HO_3.out) hb); have HO515 := am (Kd.V_lower (Kd.V_mono (ok' := fun k_ => (w.heap.size ≤ k_)) ho0 (fun k_ hk_ => Or.elim hk_ (fun hs_ => hs_) (fun hn_ => (Nat.le_trans (below_size bel) hn_)))) (below_size bel)); replace HB := am (below_step bel hb)
         clear hb ho0; refine hK.out _ _ trivial (fun hHeld => ?_); clear hK K; refine nm 95 ?_; refine pu 24 3 ?_
         refine done_ (done_of HT_.out (by kernel_rfl)) ?_
         try go_wp2
         go_roundg kj39
         case measure => have := HK1.out; have := HK2.out; have := HJ39.out; omega
         case rel => exact ⟨(t513), (ji55), (by rfl), H', ⟨by have := HK1.out; have := HK2.out; have := HJ39.out; omega⟩, ⟨vq HO515.out⟩, ⟨bel⟩⟩
        rw [if_neg c52] at H; have c52b0 := decide_eq_false c52; clear c52
        have H' := am H
        clear H; go_wp2
        go_roundg kj39
        case measure => have := HK1.out; have := HK2.out; have := HJ39.out; omega
        case rel => exact ⟨(x3_39), (wrap64 (x4_1 + 1)), sq, H', ⟨by have := HK1.out; have := HK2.out; have := HJ39.out; omega⟩, ⟨vq HO_3.out⟩, ⟨bel⟩⟩
   rw [if_neg c4] at H; have c4b0 := decide_eq_false c4; clear c4; obtain rfl := Option.some.inj H; go_wp2; go_ret
   exact ⟨_, eq_, by (with_reducible repeat (fail)); exact HO_3.out, bel⟩
-- shrunk

/-! ### spec_l13Other: function 67 -/
def spec_l13Other.j0 : Nat → ByteArray → Bool → List Int → Int → Option (ByteArray × Int)
 | 0, _, _, _, _ => none
 | k + 1, x1, x12, x1000, x1001 => if x12 = true then ((spec_l1Near.f k x1).bind fun t519 => ((spec_l1Rd_pick.f k x1000 x1001 256).bind fun bt522 => ((spec_l1Rd_pick.f k x1000 bt522.2 256).bind fun bt524 => (if (t519.length : Int) = 0 then (none) else (if 0 ≤ (Int.tmod (wrap64 ((wrap64 (bt522.1 * 256)) + bt524.1)) (t519.length : Int)) then (if (Int.tmod (wrap64 ((wrap64 (bt522.1 * 256)) + bt524.1)) (t519.length : Int)) < (t519.length : Int) then ((spec_l1Rd_pick.f k x1000 bt524.2 3).bind fun bt527 => (if bt527.1 = 0 then ((spec_l1Near.f k (rdOf ByteArray.empty t519 (Int.tmod (wrap64 ((wrap64 (bt522.1 * 256)) + bt524.1)) (t519.length : Int)))).bind fun t529 => ((spec_l1Rd_pick.f k x1000 bt527.2 256).bind fun bt532 => ((spec_l1Rd_pick.f k x1000 bt532.2 256).bind fun bt534 => (if (t529.length : Int) = 0 then (none) else (if 0 ≤ (Int.tmod (wrap64 ((wrap64 (bt532.1 * 256)) + bt534.1)) (t529.length : Int)) then (if (Int.tmod (wrap64 ((wrap64 (bt532.1 * 256)) + bt534.1)) (t529.length : Int)) < (t529.length : Int) then (some (rdOf ByteArray.empty t529 (Int.tmod (wrap64 ((wrap64 (bt532.1 * 256)) + bt534.1)) (t529.length : Int)), bt534.2)) else (none)) else (none)))))) else (some (rdOf ByteArray.empty t519 (Int.tmod (wrap64 ((wrap64 (bt522.1 * 256)) + bt524.1)) (t519.length : Int)), bt527.2)))) else (none)) else (none)))))) else ((spec_l13AnyWord.f k x1000 x1001).bind fun bt537 => (some (bt537.1, bt537.2)))
def spec_l13Other.f (k : Nat) (s0_0 : List Int) (s0_1 : Int) (a1 : ByteArray) : Option (ByteArray × Int) := (spec_l1Word.f k a1).bind fun t516 => (if t516 = true then ((spec_l1Rd_pick.f k s0_0 s0_1 2).bind fun bt517 => (spec_l13Other.j0 k a1 (bt517.1 == 0) s0_0 bt517.2)) else (spec_l13Other.j0 k a1 false s0_0 s0_1))
theorem spec_l13Other.calls (k : Nat) (g : Nat) (s0_0 : List Int) (s0_1 : Int) (a1 : ByteArray) (r1 : ByteArray) (r2 : Int) (w0 w : World) (hI : IsS114 w0 w g s0_0 s0_1) (hB : Below w0.heap.size w0 w) (h : spec_l13Other.f k s0_0 s0_1 a1 = some (r1, r2)) :
  Calls Try.prog 67 #[.pointer (some ⟨g, 0, none⟩), .string a1] w fun e w' => e = .returned (.string r1) ∧ IsS114 w0 w' g s0_0 r2 ∧ Below w0.heap.size w0 w' ∧ KeepBut w w' g none := by
 have HI0 := am hI; have HK := am (KeepBut.refl w g none); have HL := am hB.size; clear hI; have HW0 := am hB.size; have HB := am hB; clear hB
 have H := h; unfold spec_l13Other.f at H
 clear h; have HC3 := am H; clear H; go_enter Try.func67, Try.ntmps67
 go_upto_region 1 with (fail)
 go_cut [12] (fun v12 wc => ∃ (kq : Nat) (x12_2 : Bool) (x1001_2 : Int), v12 = .bool x12_2 ∧ Aside0 (spec_l13Other.j0 kq a1 x12_2 s0_0 x1001_2 = some (r1, r2)) ∧ Aside0 (kq ≤ k) ∧ Aside0 (IsS114 w0 wc g s0_0 x1001_2) ∧ Aside0 (KeepBut w wc g none) ∧ Aside0 (Below w0.heap.size w0 wc))
 case first =>
  have H := HC3.out; clear HC3; replace H := bs H; obtain ⟨t516, A40, H⟩ := H; have A4 := Aside0.mk A40; clear A40
  by_cases c5 : t516 = true
  ·subst c5
   rw [if_pos rfl] at H; replace H := bs H; obtain ⟨⟨t517, t518⟩, A60, H⟩ := H; dsimp only at H; have A6 := Aside0.mk A60; clear A60
   have H' := am H
   clear H
   go_wp2_with (first | ((with_reducible refine gate_callee (f := 71) rfl ?_); refine gl 7 Try.func71 #[.string a1] ?_; (with_reducible refine (spec_l1Word.calls k a1 true _ A4.out).mono ?_); rintro e w' ⟨rfl, ⟨nd, rfl⟩⟩; refine ⟨_, rfl, ?_⟩) | (go_at_call 53; (with_reducible refine (spec_l1Rd_pick.calls k g s0_0 s0_1 2 t517 t518 w0 _ ?side1 ?side2 A6.out).mono ?_); (case side1 => repeat (with_reducible first | exact HI0.out | apply IsS114.drewN)); (case side2 => repeat (with_reducible first | exact HB.out | apply pw_below_drewN)); rintro e w7 ⟨rfl, hi, hb, hk⟩; replace HK := am (KeepBut.trans b0_ hk (.inl rfl)); replace HB := am (hb); replace HI0 := am (hi); clear hb hk hi))
   go_meet
   case rel => exact ⟨_, ((t517 == 0)), (t518), sq, H', ⟨b54_⟩, ⟨b2_⟩, ⟨b0_⟩, ⟨b1_⟩⟩
  replace c5 := Bool.eq_false_iff.mpr c5; subst c5
  rw [if_neg Bool.false_ne_true] at H
  have H' := am H
  clear H
  go_wp2_with ((with_reducible refine gate_callee (f := 71) rfl ?_); refine gl 7 Try.func71 #[.string a1] ?_; (with_reducible refine (spec_l1Word.calls k a1 false _ A4.out).mono ?_); rintro e w' ⟨rfl, ⟨nd, rfl⟩⟩; refine ⟨_, rfl, ?_⟩)
  go_meet
  case rel => exact ⟨_, (false), (s0_1), sq, H', ⟨b54_⟩, ⟨b2_⟩, ⟨b0_⟩, ⟨b1_⟩⟩
 case rest =>
  clear HC3; obtain ⟨kq, x12_2, x1001_2, rfl, HA, HJ2, HI0, HK, HB⟩ := hcut
  cases kq with
  | zero => exact absurd HA.out (by simp [spec_l13Other.j0])
  | succ kj2 =>
   have H := HA.out; clear HA; simp only [spec_l13Other.j0] at H
   by_cases c8 : x12_2 = true
   ·subst c8
    rw [if_pos rfl] at H
    replace H := bs H; obtain ⟨t519, A90, H⟩ := H; have A9 := Aside0.mk A90; clear A90; replace H := bs H; obtain ⟨⟨t522, t523⟩, A100, H⟩ := H; dsimp only at H; have A10 := Aside0.mk A100; clear A100; replace H := bs H; obtain ⟨⟨t524, t525⟩, A110, H⟩ := H; dsimp only at H; have A11 := Aside0.mk A110; clear A110
    replace H := iq H; obtain ⟨c12, H⟩ := H
    have c12b0 : ((t519.length : Int) == 0) = false := beq_eq_false_iff_ne.mpr c12
    have c12b1 : ((t519.length : Int) != 0) = true := bne_iff_ne.mpr c12
    have c12b2 : ¬ (t519 = []) := fun h_ => c12 (by rw [h_]; rfl)
    obtain ⟨ji13, hji13⟩ : ∃ j_ : Int, (Int.tmod (wrap64 ((wrap64 (t522 * 256)) + t524)) (t519.length : Int)) = j_ := ⟨_, rfl⟩
    rw [hji13] at H
    replace H := it H; obtain ⟨c14b0, H⟩ := H; replace H := it H; obtain ⟨c15b0, H⟩ := H; replace H := bs H; obtain ⟨⟨t527, t528⟩, A160, H⟩ := H; dsimp only at H; have A16 := Aside0.mk A160; clear A160
    by_cases c17 : t527 = 0
    ·rw [if_pos c17] at H
     have c17b0 : (t527 == 0) = true := beq_iff_eq.mpr c17
     have c17b1 : (t527 != 0) = false := bne_eq_false_iff_eq.mpr c17
     clear c17; replace H := bs H; obtain ⟨t529, A180, H⟩ := H; have A18 := Aside0.mk A180; clear A180; replace H := bs H; obtain ⟨⟨t532, t533⟩, A190, H⟩ := H; dsimp only at H; have A19 := Aside0.mk A190; clear A190; replace H := bs H; obtain ⟨⟨t534, t535⟩, A200, H⟩ := H; dsimp only at H; have A20 := Aside0.mk A200; clear A200
     replace H := iq H; obtain ⟨c21, H⟩ := H
     have c21b0 : ((t529.length : Int) == 0) = false := beq_eq_false_iff_ne.mpr c21
     have c21b1 : ((t529.length : Int) != 0) = true := bne_iff_ne.mpr c21
     have c21b2 : ¬ (t529 = []) := fun h_ => c21 (by rw [h_]; rfl)
     obtain ⟨ji22, hji22⟩ : ∃ j_ : Int, (Int.tmod (wrap64 ((wrap64 (t532 * 256)) + t534)) (t529.length : Int)) = j_ := ⟨_, rfl⟩
     rw [hji22] at H
     replace H := it H; obtain ⟨c23b0, H⟩ := H; replace H := it H; obtain ⟨c24b0, H⟩ := H; simp only [Option.some.injEq, Prod.mk.injEq] at H; obtain ⟨rfl, rfl⟩ := H
     go_wp2_with (first | ((with_reducible refine gate_callee (f := 72) rfl ?_); refine gl 14 Try.func72 #[.string a1] ?_; (with_reducible refine (spec_l1Near.calls kj2 a1 t519 _ A9.out).mono ?_); rintro e w25 ⟨v520, rfl, ho0, hb⟩; refine ⟨_, rfl, ?_⟩; have HO521 := am (Kd.V_lower (Kd.V_mono (ok' := fun k_ => k_ ≠ g) ho0 (fun k_ hk_ => (IsS114.fresh b2_ k_ hk_))) (keep_size (w := w) (g := g) (row := none) b0_)); replace HK := am (KeepBut.trans b0_ (KeepBut.of_below hb g none) (.inl rfl)); replace HB := am (below_step b1_ hb); replace HI0 := am (IsS114.below b2_ hb); clear hb; clear ho0) | ((with_reducible refine gate_callee (f := 53) rfl ?_); refine gl 17 Try.func53 #[.pointer (some ⟨g, 0, none⟩), .int .i64 256] ?_; (with_reducible refine (spec_l1Rd_pick.calls kj2 g s0_0 x1001_2 256 t522 t523 w0 _ ?side1 ?side2 A10.out).mono ?_); (case side1 => repeat (with_reducible exact HI0.out)); (case side2 => repeat (with_reducible exact HB.out)); rintro e w26 ⟨rfl, hi, hb, hk⟩; refine ⟨_, rfl, ?_⟩; replace HO521 := am (Kd.V_mono (Kd.V_keep (Kd.V_mono (ok := fun k_ => k_ ≠ g) (vq HO521.out) (fun k_ hk_ => (⟨hk_, hk_⟩ : _ ∧ k_ ≠ g))) hk (fun _ h => h.2)) (fun _ h => h.1)); replace HK := am (KeepBut.trans b0_ hk (.inl rfl)); replace HB := am (hb); replace HI0 := am (hi); clear hb hk hi) | ((with_reducible refine gate_callee (f := 53) rfl ?_); refine gl 20 Try.func53 #[.pointer (some ⟨g, 0, none⟩), .int .i64 256] ?_; (with_reducible refine (spec_l1Rd_pick.calls kj2 g s0_0 t523 256 t524 t525 w0 _ ?side1 ?side2 A11.out).mono ?_); (case side1 => repeat (with_reducible exact HI0.out)); (case side2 => repeat (with_reducible exact HB.out)); rintro e w27 ⟨rfl, hi, hb, hk⟩; refine ⟨_, rfl, ?_⟩; replace HO521 := am (Kd.V_mono (Kd.V_keep (Kd.V_mono (ok := fun k_ => k_ ≠ g) (vq HO521.out) (fun k_ hk_ => (⟨hk_, hk_⟩ : _ ∧ k_ ≠ g))) hk (fun _ h => h.2)) (fun _ h => h.1)); replace HK := am (KeepBut.trans b0_ hk (.inl rfl)); replace HB := am (hb); replace HI0 := am (hi); clear hb hk hi; obtain ⟨Ao28, co28, eo28⟩ := Kd.V_slice HO521.out; subst eo28; have p526 : 0 ≤ ((ji13) : Int) := of_decide_eq_true ad; have q526 : (ji13) < (t519.length : Int) := of_decide_eq_true ad; obtain ⟨ad526, e526, hx526_0⟩ := Kd.at_string (Kd.V_reads' HO521.out).2.2 (ji13) p526 q526; cases e526; replace p526 := eq_true p526; replace q526 := eq_true q526) | ((with_reducible refine gate_callee (f := 53) rfl ?_); refine gl 28 Try.func53 #[.pointer (some ⟨g, 0, none⟩), .int .i64 3] ?_; (with_reducible refine (spec_l1Rd_pick.calls kj2 g s0_0 t525 3 t527 t528 w0 _ ?side1 ?side2 A16.out).mono ?_); (case side1 => repeat (with_reducible exact HI0.out)); (case side2 => repeat (with_reducible exact HB.out)); rintro e w29 ⟨rfl, hi, hb, hk⟩; refine ⟨_, rfl, ?_⟩; replace HO521 := am (Kd.V_mono (Kd.V_keep (Kd.V_mono (ok := fun k_ => k_ ≠ g) (vq HO521.out) (fun k_ hk_ => (⟨hk_, hk_⟩ : _ ∧ k_ ≠ g))) hk (fun _ h => h.2)) (fun _ h => h.1)); replace HK := am (KeepBut.trans b0_ hk (.inl rfl)); replace HB := am (hb); replace HI0 := am (hi); clear hb hk hi) | ((with_reducible refine gate_callee (f := 72) rfl ?_); refine goesL_ (some 31) rfl rfl Try.func72 (by kernel_rfl) rfl #[.string (rdOf ByteArray.empty t519 (ji13))] rfl (by simp only [List.map_toArray, List.map_cons, List.map_nil]; rfl) ?_; (with_reducible refine (spec_l1Near.calls kj2 (rdOf ByteArray.empty t519 (ji13)) t529 _ A18.out).mono ?_); rintro e w30 ⟨v530, rfl, ho0, hb⟩; refine ⟨_, rfl, ?_⟩; replace HO521 := am (Kd.V_below (vq HO521.out) hb); have HO531 := am (Kd.V_lower (Kd.V_mono (ok' := fun k_ => k_ ≠ g) ho0 (fun k_ hk_ => (IsS114.fresh b2_ k_ hk_))) (keep_size (w := w) (g := g) (row := none) b0_)); replace HK := am (KeepBut.trans b0_ (KeepBut.of_below hb g none) (.inl rfl)); replace HB := am (below_step b1_ hb); replace HI0 := am (IsS114.below b2_ hb); clear hb; clear ho0) | ((with_reducible refine gate_callee (f := 53) rfl ?_); refine gl 34 Try.func53 #[.pointer (some ⟨g, 0, none⟩), .int .i64 256] ?_; (with_reducible refine (spec_l1Rd_pick.calls kj2 g s0_0 t528 256 t532 t533 w0 _ ?side1 ?side2 A19.out).mono ?_); (case side1 => repeat (with_reducible exact HI0.out)); (case side2 => repeat (with_reducible exact HB.out)); rintro e w31 ⟨rfl, hi, hb, hk⟩; refine ⟨_, rfl, ?_⟩; replace HO521 := am (Kd.V_mono (Kd.V_keep (Kd.V_mono (ok := fun k_ => k_ ≠ g) (vq HO521.out) (fun k_ hk_ => (⟨hk_, hk_⟩ : _ ∧ k_ ≠ g))) hk (fun _ h => h.2)) (fun _ h => h.1)); replace HO531 := am (Kd.V_mono (Kd.V_keep (Kd.V_mono (ok := fun k_ => k_ ≠ g) (vq HO531.out) (fun k_ hk_ => (⟨hk_, hk_⟩ : _ ∧ k_ ≠ g))) hk (fun _ h => h.2)) (fun _ h => h.1)); replace HK := am (KeepBut.trans b0_ hk (.inl rfl)); replace HB := am (hb); replace HI0 := am (hi); clear hb hk hi) | ((with_reducible refine gate_callee (f := 53) rfl ?_); refine gl 37 Try.func53 #[.pointer (some ⟨g, 0, none⟩), .int .i64 256] ?_; (with_reducible refine (spec_l1Rd_pick.calls kj2 g s0_0 t533 256 t534 t535 w0 _ ?side1 ?side2 A20.out).mono ?_); (case side1 => repeat (with_reducible exact HI0.out)); (case side2 => repeat (with_reducible exact HB.out)); rintro e w32 ⟨rfl, hi, hb, hk⟩; refine ⟨_, rfl, ?_⟩; replace HO521 := am (Kd.V_mono (Kd.V_keep (Kd.V_mono (ok := fun k_ => k_ ≠ g) (vq HO521.out) (fun k_ hk_ => (⟨hk_, hk_⟩ : _ ∧ k_ ≠ g))) hk (fun _ h => h.2)) (fun _ h => h.1)); replace HO531 := am (Kd.V_mono (Kd.V_keep (Kd.V_mono (ok := fun k_ => k_ ≠ g) (vq HO531.out) (fun k_ hk_ => (⟨hk_, hk_⟩ : _ ∧ k_ ≠ g))) hk (fun _ h => h.2)) (fun _ h => h.1)); replace HK := am (KeepBut.trans b0_ hk (.inl rfl)); replace HB := am (hb); replace HI0 := am (hi); clear hb hk hi; obtain ⟨Ao33, co33, eo33⟩ := Kd.V_slice HO531.out; subst eo33; have p536 : 0 ≤ ((ji22) : Int) := of_decide_eq_true ad; have q536 : (ji22) < (t529.length : Int) := of_decide_eq_true ad; obtain ⟨ad536, e536, hx536_0⟩ := Kd.at_string (Kd.V_reads' HO531.out).2.2 (ji22) p536 q536; cases e536; replace p536 := eq_true p536; replace q536 := eq_true q536))
     go_ret
     exact ⟨by rfl, b2_, b1_, b0_⟩
    rw [if_neg c17] at H
    have c17b0 : (t527 == 0) = false := beq_eq_false_iff_ne.mpr c17
    have c17b1 : (t527 != 0) = true := bne_iff_ne.mpr c17
    simp only [Option.some.injEq, Prod.mk.injEq] at H; obtain ⟨rfl, rfl⟩ := H
    go_wp2_with (first | ((with_reducible refine gate_callee (f := 72) rfl ?_); refine gl 14 Try.func72 #[.string a1] ?_; (with_reducible refine (spec_l1Near.calls kj2 a1 t519 _ A9.out).mono ?_); rintro e w34 ⟨v520, rfl, ho0, hb⟩; refine ⟨_, rfl, ?_⟩; have HO521 := am (Kd.V_lower (Kd.V_mono (ok' := fun k_ => k_ ≠ g) ho0 (fun k_ hk_ => (IsS114.fresh b2_ k_ hk_))) (keep_size (w := w) (g := g) (row := none) b0_)); replace HK := am (KeepBut.trans b0_ (KeepBut.of_below hb g none) (.inl rfl)); replace HB := am (below_step b1_ hb); replace HI0 := am (IsS114.below b2_ hb); clear hb; clear ho0) | ((with_reducible refine gate_callee (f := 53) rfl ?_); refine gl 17 Try.func53 #[.pointer (some ⟨g, 0, none⟩), .int .i64 256] ?_; (with_reducible refine (spec_l1Rd_pick.calls kj2 g s0_0 x1001_2 256 t522 t523 w0 _ ?side1 ?side2 A10.out).mono ?_); (case side1 => repeat (with_reducible exact HI0.out)); (case side2 => repeat (with_reducible exact HB.out)); rintro e w35 ⟨rfl, hi, hb, hk⟩; refine ⟨_, rfl, ?_⟩; replace HO521 := am (Kd.V_mono (Kd.V_keep (Kd.V_mono (ok := fun k_ => k_ ≠ g) (vq HO521.out) (fun k_ hk_ => (⟨hk_, hk_⟩ : _ ∧ k_ ≠ g))) hk (fun _ h => h.2)) (fun _ h => h.1)); replace HK := am (KeepBut.trans b0_ hk (.inl rfl)); replace HB := am (hb); replace HI0 := am (hi); clear hb hk hi) | ((with_reducible refine gate_callee (f := 53) rfl ?_); refine gl 20 Try.func53 #[.pointer (some ⟨g, 0, none⟩), .int .i64 256] ?_; (with_reducible refine (spec_l1Rd_pick.calls kj2 g s0_0 t523 256 t524 t525 w0 _ ?side1 ?side2 A11.out).mono ?_); (case side1 => repeat (with_reducible exact HI0.out)); (case side2 => repeat (with_reducible exact HB.out)); rintro e w36 ⟨rfl, hi, hb, hk⟩; refine ⟨_, rfl, ?_⟩; replace HO521 := am (Kd.V_mono (Kd.V_keep (Kd.V_mono (ok := fun k_ => k_ ≠ g) (vq HO521.out) (fun k_ hk_ => (⟨hk_, hk_⟩ : _ ∧ k_ ≠ g))) hk (fun _ h => h.2)) (fun _ h => h.1)); replace HK := am (KeepBut.trans b0_ hk (.inl rfl)); replace HB := am (hb); replace HI0 := am (hi); clear hb hk hi; obtain ⟨Ao37, co37, eo37⟩ := Kd.V_slice HO521.out; subst eo37; have p526 : 0 ≤ ((ji13) : Int) := of_decide_eq_true ad; have q526 : (ji13) < (t519.length : Int) := of_decide_eq_true ad; obtain ⟨ad526, e526, hx526_0⟩ := Kd.at_string (Kd.V_reads' HO521.out).2.2 (ji13) p526 q526; cases e526; replace p526 := eq_true p526; replace q526 := eq_true q526) | ((with_reducible refine gate_callee (f := 53) rfl ?_); refine gl 28 Try.func53 #[.pointer (some ⟨g, 0, none⟩), .int .i64 3] ?_; (with_reducible refine (spec_l1Rd_pick.calls kj2 g s0_0 t525 3 t527 t528 w0 _ ?side1 ?side2 A16.out).mono ?_); (case side1 => repeat (with_reducible exact HI0.out)); (case side2 => repeat (with_reducible exact HB.out)); rintro e w38 ⟨rfl, hi, hb, hk⟩; refine ⟨_, rfl, ?_⟩; replace HO521 := am (Kd.V_mono (Kd.V_keep (Kd.V_mono (ok := fun k_ => k_ ≠ g) (vq HO521.out) (fun k_ hk_ => (⟨hk_, hk_⟩ : _ ∧ k_ ≠ g))) hk (fun _ h => h.2)) (fun _ h => h.1)); replace HK := am (KeepBut.trans b0_ hk (.inl rfl)); replace HB := am (hb); replace HI0 := am (hi); clear hb hk hi))
    go_ret
    exact ⟨by rfl, b2_, b1_, b0_⟩
   replace c8 := Bool.eq_false_iff.mpr c8; subst c8
   rw [if_neg Bool.false_ne_true] at H; replace H := bs H; obtain ⟨⟨t537, t538⟩, A390, H⟩ := H; dsimp only at H; have A39 := Aside0.mk A390; clear A390; simp only [Option.some.injEq, Prod.mk.injEq] at H; obtain ⟨rfl, rfl⟩ := H
   go_wp2_with ((with_reducible refine gate_callee (f := 64) rfl ?_); refine gl 46 Try.func64 #[.pointer (some ⟨g, 0, none⟩)] ?_; (with_reducible refine (spec_l13AnyWord.calls kj2 g s0_0 x1001_2 t537 t538 w0 _ ?side1 ?side2 A39.out).mono ?_); (case side1 => repeat (with_reducible exact HI0.out)); (case side2 => repeat (with_reducible exact HB.out)); rintro e w40 ⟨rfl, hi, hb, hk⟩; refine ⟨_, rfl, ?_⟩; replace HK := am (KeepBut.trans b0_ hk (.inl rfl)); replace HB := am (hb); replace HI0 := am (hi); clear hb hk hi)
   go_ret
   exact ⟨eq_, b2_, b1_, b0_⟩

/-! ### spec_MachineWord: function 68 -/
mutual
def spec_MachineWord.j0 : Nat → List (S95) → Int → Bool → Option (ByteArray)
 | 0, _, _, _ => none
 | k + 1, x0, x1, x22 => if x22 = true then (some (⟨#[]⟩ : ByteArray)) else ((spec_l3Counts.f k x0).bind fun t545 => (spec_MachineWord.l0 k x0 x1 t545 0 (([] : List Int))))
def spec_MachineWord.l0 : Nat → List (S95) → Int → List Int → Int → List Int → Option (ByteArray)
 | 0, _, _, _, _, _ => none
 | k + 1, x0, x1, x5, x6, x7 => if 0 ≤ x6 then (if x6 < (x0.length : Int) then (if (rd_T95 x0 x6).f0 = true then (if x1 = 0 then (some (strOfNums x7)) else (spec_MachineWord.j2 k x0 (wrap64 (x1 - 1)) x5 x6 x7)) else (spec_MachineWord.j2 k x0 x1 x5 x6 x7)) else (none)) else (none)
def spec_MachineWord.j2 : Nat → List (S95) → Int → List Int → Int → List Int → Option (ByteArray)
 | 0, _, _, _, _, _ => none
 | k + 1, x0, x1, x5, x6, x7 => spec_MachineWord.l1 k x0 x1 x5 x6 x7 0
def spec_MachineWord.l1 : Nat → List (S95) → Int → List Int → Int → List Int → Int → Option (ByteArray)
 | 0, _, _, _, _, _, _ => none
 | k + 1, x0, x1, x5, x6, x7, x8 => if 0 ≤ x6 then (if x6 < (x0.length : Int) then (if x8 < (((rd_T95 x0 x6).f1).length : Int) then (if 0 ≤ x8 then (if 0 ≤ ((rd_T97 ((rd_T95 x0 x6).f1) x8).f1) then (if ((rd_T97 ((rd_T95 x0 x6).f1) x8).f1) < (x5.length : Int) then (if x1 < (rd x5 ((rd_T97 ((rd_T95 x0 x6).f1) x8).f1)) then (if x7.length < 140737488355328 then (spec_MachineWord.l0 k x0 x1 x5 ((rd_T97 ((rd_T95 x0 x6).f1) x8).f1) (x7 ++ [((rd_T97 ((rd_T95 x0 x6).f1) x8).f0) % 256])) else (none)) else (spec_MachineWord.l1 k x0 (wrap64 (x1 - (rd x5 ((rd_T97 ((rd_T95 x0 x6).f1) x8).f1)))) x5 x6 x7 (wrap64 (x8 + 1)))) else (none)) else (none)) else (none)) else (spec_MachineWord.l0 k x0 x1 x5 x6 x7)) else (none)) else (none)
end
def spec_MachineWord.f (k : Nat) (l0 : List (S95)) (a1 : Int) : Option (ByteArray) := (spec_l3Small.f k l0).bind fun t539 => (if t539 = true then ((spec_l3Counts.f k l0).bind fun t540 => (if 0 < (t540.length : Int) then ((spec_l1In.f a1 0 (wrap64 ((rd t540 0) - 1))).bind fun t544 => (spec_MachineWord.j0 k l0 a1 (!t544))) else (none))) else (spec_MachineWord.j0 k l0 a1 true))
theorem spec_MachineWord.calls (k : Nat) (A0 : Option Addr) (c0 : Nat) (l0 : List (S95)) (a1 : Int) (r : ByteArray) (w : World) (hr0 : Kd.C k95 w A0 l0.length l0) (hc0 : l0.length ≤ c0) (h : spec_MachineWord.f k l0 a1 = some r) :
  Calls Try.prog 68 #[.slice A0 l0.length c0, .int .i64 a1] w fun e w' => e = .returned (.string r) ∧ Below w.heap.size w w' := by
 have hu97 := Try.underlying97; have HR0 := am hr0; have HC0 := am hc0; clear hr0 hc0; have HB := am (Below.refl w.heap.size w)
 have H := h; unfold spec_MachineWord.f at H
 clear h; have HC3 := am H; clear H; go_enter Try.func68, Try.ntmps68
 go_upto_region 1 with (fail)
 go_cut [22] (fun v22 wc => ∃ (kq : Nat) (x22_2 : Bool), v22 = .bool x22_2 ∧ Aside0 (spec_MachineWord.j0 kq l0 a1 x22_2 = some r) ∧ Aside0 (kq ≤ k) ∧ Aside0 (Below w.heap.size w wc))
 case first =>
  have H := HC3.out; clear HC3; replace H := bs H; obtain ⟨t539, A40, H⟩ := H; have A4 := Aside0.mk A40; clear A40
  by_cases c5 : t539 = true
  ·subst c5
   rw [if_pos rfl] at H
   replace H := bs H; obtain ⟨t540, A60, H⟩ := H; have A6 := Aside0.mk A60; clear A60
   replace H := ip H; obtain ⟨c7, H⟩ := H; have c7b0 := decide_eq_true c7
   have c7b1 : decide (0 < t540.length) = true := decide_eq_true (by omega)
   clear c7
   (skip)
   replace H := bs H; obtain ⟨t544, A80, H⟩ := H; have A8 := Aside0.mk A80; clear A80
   have H' := am H
   clear H
   go_wp2_with (first | ((with_reducible refine gate_callee (f := 65) rfl ?_); refine gl 11 Try.func65 #[.slice A0 l0.length c0] ?_; (with_reducible refine (spec_l3Small.calls k _ _ l0 true _ ?side1 ?side2 A4.out).mono ?_); (case side1 => exact cq (Kd.C_below HR0.out HB.out)); (case side2 => exact HC0.out); rintro e w9 ⟨rfl, hb⟩; refine ⟨_, rfl, ?_⟩; replace HB := am (below_step bel hb); clear hb) | (go_at_call 104; (with_reducible refine (spec_l3Counts.calls k _ _ l0 t540 _ ?side1 ?side2 A6.out).mono ?_); (case side1 => exact cq (Kd.C_below HR0.out HB.out)); (case side2 => exact HC0.out); rintro e w10 ⟨v541, rfl, ho0, hb⟩; have HO542 := am (Kd.R_lower ho0 (below_size bel)); replace HB := am (below_step bel hb); clear hb; clear ho0; obtain ⟨Ao11, co11, eo11⟩ := Kd.R_slice HO542.out; subst eo11; have p543 : 0 ≤ (0 : Int) := (by omega); have q543 : 0 < (t540.length : Int) := of_decide_eq_true ad; obtain ⟨ad543, e543, hx543_0⟩ := Kd.at_int (Kd.R_reads' HO542.out).2.2 0 p543 q543; cases e543; have qi543 : (0 < t540.length) = True := eq_true (by omega); rw [show ((0 : Int)).toNat = 0 from rfl] at hx543_0; rw [Addr.add_zero'] at hx543_0; replace p543 := eq_true p543; replace q543 := eq_true q543) | (go_at_call 74; (with_reducible refine (spec_l1In.calls a1 0 (wrap64 ((rd t540 0) - 1)) t544 _ A8.out).mono ?_); rintro e w' ⟨rfl, ⟨nd, rfl⟩⟩))
   go_meet
   case rel => exact ⟨_, (!t544), sq, H', ⟨b54_⟩, ⟨bel⟩⟩
  replace c5 := Bool.eq_false_iff.mpr c5; subst c5
  rw [if_neg Bool.false_ne_true] at H
  have H' := am H
  clear H
  go_wp2_with ((with_reducible refine gate_callee (f := 65) rfl ?_); refine gl 11 Try.func65 #[.slice A0 l0.length c0] ?_; (with_reducible refine (spec_l3Small.calls k _ _ l0 false _ ?side1 ?side2 A4.out).mono ?_); (case side1 => exact cq (Kd.C_below HR0.out HB.out)); (case side2 => exact HC0.out); rintro e w12 ⟨rfl, hb⟩; refine ⟨_, rfl, ?_⟩; replace HB := am (below_step bel hb); clear hb)
  go_meet
  case rel => exact ⟨_, (true), sq, H', ⟨b54_⟩, ⟨bel⟩⟩
 case rest =>
  clear HC3; obtain ⟨kq, x22_2, rfl, HA, HJ2, HB⟩ := hcut
  cases kq with
  | zero => exact absurd HA.out (by simp [spec_MachineWord.j0])
  | succ kj2 =>
   have H := HA.out; clear HA; simp only [spec_MachineWord.j0] at H
   by_cases c13 : x22_2 = true
   ·subst c13
    rw [if_pos rfl] at H
    obtain rfl := Option.some.inj H; go_wp2; go_ret
    exact ⟨eq_, bel⟩
   replace c13 := Bool.eq_false_iff.mpr c13; subst c13
   rw [if_neg Bool.false_ne_true] at H
   replace H := bs H; obtain ⟨t545, A140, H⟩ := H; have A14 := Aside0.mk A140; clear A140; obtain ⟨y548, hy548⟩ : ∃ y_ : List Int, y_ = (([] : List Int)) := ⟨_, rfl⟩
   rw [← hy548] at H
   have Ny548 := am hy548; clear hy548
   have H' := am H
   clear H
   go_wp2_with (first | ((with_reducible refine gate_callee (f := 104) rfl ?_); refine gl 24 Try.func104 #[.slice A0 l0.length c0] ?_; (with_reducible refine (spec_l3Counts.calls kj2 _ _ l0 t545 _ ?side1 ?side2 A14.out).mono ?_); (case side1 => exact cq (Kd.C_below HR0.out HB.out)); (case side2 => exact HC0.out); rintro e w15 ⟨v546, rfl, ho0, hb⟩; refine ⟨_, rfl, ?_⟩; have HO547 := am (Kd.R_lower ho0 (below_size bel)); replace HB := am (below_step bel hb); clear hb; clear ho0) | ((with_reducible refine gate_dst (N := 25) rfl ?_); refine Kd.R_lit (Kd.int .u8) _ 5 ?hg (N := 25) ?hd (xs := ([] : List Int)) (inner := []) (ok := fun _ => True) (okp := fun _ => True) ?hr ?hp (fun _ hk => hk) trivial (Below.refl _ _) (Nat.le_refl _) (by simp) ?_; (case hd => rfl); (case hg => rfl); (case hr => (go_simp; done)); (case hp => exact (Reps.none _ _)); intro v549 w16 ho17 hb hg_ hnew_; clear hg_ hnew_; (rw [← Ny548.out] at ho17); replace HO547 := am (Kd.R_below (rq HO547.out) hb); have HO550 := am (Kd.R_lower ho17 (below_size bel)); replace HB := am (below_step bel hb); clear hb ho17))
   go_loopg [1, 6, 7] kj2 (fun kq v1 v6 v7 w' => ∃ (x1_2 : Int) (x6_2 : Int) (x7_2 : List Int), v1 = .int .i64 x1_2 ∧ v6 = .int .i64 x6_2 ∧ Aside0 (spec_MachineWord.l0 kq l0 x1_2 t545 x6_2 x7_2 = some r) ∧ Aside0 (kq ≤ kj2) ∧ Aside0 (Kd.R (Kd.int .i64) 3 w' w.heap.size (fun _ => True) v546 t545) ∧ Aside0 (Kd.R (Kd.int .u8) 5 w' w.heap.size (fun _ => True) v7 x7_2) ∧ Aside0 (Below w.heap.size w w'))
   case atStart => exact ⟨(a1), (0), (y548), sq, sq, H', ⟨Nat.le_refl _⟩, ⟨rq HO547.out⟩, ⟨rq HO550.out⟩, ⟨bel⟩⟩
   case round =>
    clear H'; obtain ⟨x1_2, x6_2, x7_2, rfl, rfl, HA, HK2, HO_5, HO_7, HB⟩ := hrel
    cases gk with
    | zero => exact absurd HA.out (by simp [spec_MachineWord.l0])
    | succ k2 =>
     have H := HA.out; clear HA; simp only [spec_MachineWord.l0] at H; replace H := it H; obtain ⟨c18b0, H⟩ := H; replace H := it H; obtain ⟨c19b0, H⟩ := H; have HC20 := am H; clear H
     have p551 : 0 ≤ (x6_2 : Int) := of_decide_eq_true ad
     have q551 : x6_2 < (l0.length : Int) := of_decide_eq_true ad
     obtain ⟨ad551, A551_1, c551_1, e551, hx551_0, hx551_1, hl551_1, hi551_1⟩ := at_T95 HR0.out x6_2 p551 q551; cases e551; replace hx551_0 := kp HB.out hx551_0; replace hx551_1 := kp HB.out hx551_1; have HR551_1 := am hi551_1; have HC551_1 := am hl551_1; clear hi551_1 hl551_1; replace p551 := eq_true p551; replace q551 := eq_true q551
     go_upto_if 30 with (fail)
     go_cut [1] (fun v1 wc => ∃ (kq : Nat) (x1_19 : Int), v1 = .int .i64 x1_19 ∧ Aside0 (spec_MachineWord.j2 kq l0 x1_19 t545 x6_2 x7_2 = some r) ∧ Aside0 (kq ≤ k2) ∧ Aside0 (Kd.R (Kd.int .i64) 3 wc w.heap.size (fun _ => True) v546 t545) ∧ Aside0 (Kd.R (Kd.int .u8) 5 wc w.heap.size (fun _ => True) u7 x7_2) ∧ Aside0 (Below w.heap.size w wc))
     case first =>
      have H := HC20.out; clear HC20; obtain ⟨bq21, hbq21⟩ : ∃ b_ : Bool, b_ = ((rd_T95 l0 x6_2).f0) := ⟨_, rfl⟩
      replace H : (if bq21 = true then (if x1_2 = 0 then (some (strOfNums x7_2)) else (spec_MachineWord.j2 k2 l0 (wrap64 (x1_2 - 1)) t545 x6_2 x7_2)) else (spec_MachineWord.j2 k2 l0 x1_2 t545 x6_2 x7_2)) = some r := by rw [← hbq21] at H; exact H
      have Nbq21 := am hbq21; clear hbq21
      rw [← Nbq21.out]
      by_cases c22 : bq21 = true
      ·subst c22
       rw [if_pos rfl] at H
       by_cases c23 : x1_2 = 0
       ·rw [if_pos c23] at H
        have c23b0 : (x1_2 == 0) = true := beq_iff_eq.mpr c23
        have c23b1 : (x1_2 != 0) = false := bne_eq_false_iff_eq.mpr c23
        clear c23; obtain rfl := Option.some.inj H; have hcv24 := own_string (P := Try.prog) Try.underlying41 Try.underlying5 Try.underlying9 (Kd.own_of_R HO_7.out); go_wp2; go_ret
        exact ⟨eq_, bel⟩
       rw [if_neg c23] at H
       have c23b0 : (x1_2 == 0) = false := beq_eq_false_iff_ne.mpr c23
       have c23b1 : (x1_2 != 0) = true := bne_iff_ne.mpr c23
       have H' := am H
       clear H; go_wp2
       go_meet
       case rel => exact ⟨_, (wrap64 (x1_2 - 1)), sq, H', ⟨by have := HJ2.out; have := HK2.out; omega⟩, ⟨rq HO_5.out⟩, ⟨rq HO_7.out⟩, ⟨bel⟩⟩
      replace c22 := Bool.eq_false_iff.mpr c22; subst c22
      rw [← Nbq21.out] at hx551_0
      rw [if_neg Bool.false_ne_true] at H
      have H' := am H
      clear H; go_wp2
      go_meet
      case rel => exact ⟨_, (x1_2), sq, H', ⟨by have := HJ2.out; have := HK2.out; omega⟩, ⟨rq HO_5.out⟩, ⟨rq HO_7.out⟩, ⟨bel⟩⟩
     case rest =>
      clear HC20; clear c18b0 c19b0 hx551_0 hx551_1 p551 q551; obtain ⟨kq, x1_19, rfl, HA, HJ19, HO_5, HO_7, HB⟩ := hcut
      cases kq with
      | zero => exact absurd HA.out (by simp [spec_MachineWord.j2])
      | succ kj19 =>
       have H := HA.out; clear HA; simp only [spec_MachineWord.j2] at H
       have H' := am H
       clear H; go_wp2
       go_loopg [1, 6, 7, 8] kj19 (fun kq v1 v6 v7 v8 w' => ∃ (x1_4 : Int) (x6_4 : Int) (x7_4 : List Int) (x8_4 : Int), v1 = .int .i64 x1_4 ∧ v6 = .int .i64 x6_4 ∧ v8 = .int .i64 x8_4 ∧ Aside0 (spec_MachineWord.l1 kq l0 x1_4 t545 x6_4 x7_4 x8_4 = some r) ∧ Aside0 (kq ≤ kj19) ∧ Aside0 (Kd.R (Kd.int .i64) 3 w' w.heap.size (fun _ => True) v546 t545) ∧ Aside0 (Kd.R (Kd.int .u8) 5 w' w.heap.size (fun _ => True) v7 x7_4) ∧ Aside0 (Below w.heap.size w w'))
       case atStart => exact ⟨(x1_19), (x6_2), (x7_2), (0), sq, sq, sq, H', ⟨Nat.le_refl _⟩, ⟨rq HO_5.out⟩, ⟨rq HO_7.out⟩, ⟨bel⟩⟩
       case round =>
        clear H'; obtain ⟨x1_4, x6_4, x7_4, x8_4, rfl, rfl, rfl, HA, HK4, HO_5, HO_7, HB⟩ := hrel
        cases gk with
        | zero => exact absurd HA.out (by simp [spec_MachineWord.l1])
        | succ k4 =>
         have H := HA.out; clear HA; simp only [spec_MachineWord.l1] at H; replace H := it H; obtain ⟨c25b0, H⟩ := H; replace H := it H; obtain ⟨c26b0, H⟩ := H
         by_cases c27 : x8_4 < (((rd_T95 l0 x6_4).f1).length : Int)
         ·rw [if_pos c27] at H; have c27b0 := decide_eq_true c27; clear c27
          replace H := it H; obtain ⟨c28b0, H⟩ := H; replace H := it H; obtain ⟨c29b0, H⟩ := H; replace H := it H; obtain ⟨c30b0, H⟩ := H
          by_cases c31 : x1_4 < (rd t545 ((rd_T97 ((rd_T95 l0 x6_4).f1) x8_4).f1))
          ·rw [if_pos c31] at H; have c31b0 := decide_eq_true c31; clear c31
           replace H := ip H; obtain ⟨c32, H⟩ := H; have LMc32 := Aside0.mk c32; clear c32; obtain ⟨y557, hy557⟩ : ∃ y_ : List Int, y_ = (x7_4 ++ [((rd_T97 ((rd_T95 l0 x6_4).f1) x8_4).f0) % 256]) := ⟨_, rfl⟩
           rw [← hy557] at H
           have Ny557 := am hy557; clear hy557
           have H' := am H
           clear H
           have p552 : 0 ≤ (x6_4 : Int) := of_decide_eq_true ad
           have q552 : x6_4 < (l0.length : Int) := of_decide_eq_true ad
           obtain ⟨ad552, A552_1, c552_1, e552, hx552_0, hx552_1, hl552_1, hi552_1⟩ := at_T95 HR0.out x6_4 p552 q552
           obtain rfl : ad551 = ad552 := (by injection e552)
           replace hx552_0 := kp HB.out hx552_0; replace hx552_1 := kp HB.out hx552_1; have HR552_1 := am hi552_1; have HC552_1 := am hl552_1; clear hi552_1 hl552_1; replace p552 := eq_true p552; replace q552 := eq_true q552
           have p553 : 0 ≤ (x6_4 : Int) := of_decide_eq_true ad
           have q553 : x6_4 < (l0.length : Int) := of_decide_eq_true ad
           obtain ⟨ad553, A553_1, c553_1, e553, hx553_0, hx553_1, hl553_1, hi553_1⟩ := at_T95 HR0.out x6_4 p553 q553
           obtain rfl : ad551 = ad553 := (by injection e553)
           replace hx553_0 := kp HB.out hx553_0; replace hx553_1 := kp HB.out hx553_1; have HR553_1 := am hi553_1; have HC553_1 := am hl553_1; clear hi553_1 hl553_1; replace p553 := eq_true p553; replace q553 := eq_true q553; have ea_ := Option.some.inj (hx552_1.symm.trans hx553_1)
           injection ea_ with ea_ en_ ec_
           subst ea_; subst ec_; clear en_
           have p554 : 0 ≤ (x8_4 : Int) := of_decide_eq_true ad
           have q554 : x8_4 < (((rd_T95 l0 x6_4).f1).length : Int) := of_decide_eq_true ad
           obtain ⟨ad554, e554, hx554_0, hx554_1⟩ := at_T97 HR553_1.out x8_4 p554 q554; cases e554; replace hx554_0 := kp HB.out hx554_0; replace hx554_1 := kp HB.out hx554_1; replace p554 := eq_true p554; replace q554 := eq_true q554
           go_wp2_with (first | ((with_reducible refine gate_dst (N := 9) rfl ?_); refine bx 9 (cs := #[.int .i64 0, .int .i64 0]) (t := 97) ?_; intro gb555 hg w33 hbox hb; replace HO_5 := am (Kd.R_below (rq HO_5.out) hb); replace HO_7 := am (Kd.R_below (rq HO_7.out) hb); have BK555 := am (hbox); have GW555 := am ((b17_ : w.heap.size ≤ gb555)); have GE555 := am ((b17_ : w.heap.size ≤ gb555)); replace HB := am (below_step bel hb); clear hb hbox hg; have ⟨hcz34_0, hcz34_1, hfz34_0, hfz34_1⟩ := b2c BK555.out; obtain ⟨Ao35, co35, eo35⟩ := Kd.R_slice HO_5.out; subst eo35; have p556 : 0 ≤ (((rd_T97 ((rd_T95 l0 x6_4).f1) x8_4).f1) : Int) := of_decide_eq_true ad; have q556 : ((rd_T97 ((rd_T95 l0 x6_4).f1) x8_4).f1) < (t545.length : Int) := of_decide_eq_true ad; obtain ⟨ad556, e556, hx556_0⟩ := Kd.at_int (Kd.R_reads' HO_5.out).2.2 ((rd_T97 ((rd_T95 l0 x6_4).f1) x8_4).f1) p556 q556; cases e556; have hn556_0 : ad556.block ≠ gb555 := b59_; have hn556_1 : ad556.block ≠ gb555 := b59_; replace hx556_0 := (cell_far (p := ⟨gb555, 0, none⟩) (by (rw [add_block]; exact hn556_0)) (.int .i64 ((rd_T97 ((rd_T95 l0 x6_4).f1) x8_4).f0))).trans hx556_0; replace hx556_0 := (cell_far (p := ⟨gb555, 1, none⟩) (by (rw [add_block]; exact hn556_1)) (.int .i64 ((rd_T97 ((rd_T95 l0 x6_4).f1) x8_4).f1))).trans hx556_0; clear hn556_0; clear hn556_1; replace p556 := eq_true p556; replace q556 := eq_true q556) | ((with_reducible refine gate_builtin (b := .append) (xs := #[.tmp 62, .tmp 66]) rfl ?_); at_builtin; refine Kd.R_append (Kd.int .u8) (w0 := w) w.heap.size rfl (.tmp 62) (.tmp 66) 41 5 (.int .u8 0) 1 rfl Try.underlying41 info5 rfl (by decide) (by omega) u7 x7_4 (((rd_T97 ((rd_T95 l0 x6_4).f1) x8_4).f0) % 256) [.int .u8 (((rd_T97 ((rd_T95 l0 x6_4).f1) x8_4).f0) % 256)] (fun _ => True) (fun _ => False) rfl (by (go_simp; done)) ?aP (fun _ hk => hk.elim) ?aF ?aO ?aB ?aS ?aL ?_; (case aP => exact rfl); (case aB => exact (bel1 GE555.out)); (case aF => exact (fun _ _ => trivial)); (case aO => exact (rq (Kd.R_mono (Kd.R_far (p := ⟨gb555, 1, none⟩) (Kd.R_far (p := ⟨gb555, 0, none⟩) (Kd.R_types HO_7.out BK555.out (by decide)) (fun _ hk => hk.2) (.int .i64 ((rd_T97 ((rd_T95 l0 x6_4).f1) x8_4).f0))) (fun _ hk => hk.2) (.int .i64 ((rd_T97 ((rd_T95 l0 x6_4).f1) x8_4).f1))) (fun _ hk => trivial)))); (case aS => exact (below_size (bel1 GE555.out))); (case aL => have := LMc32.out; omega); intro v558 w36 ho hb hg hat; rw [← Ny557.out] at ho; replace HO_5 := am (Kd.R_over' (rq ((Kd.R_mono (Kd.R_far (p := ⟨gb555, 1, none⟩) (Kd.R_far (p := ⟨gb555, 0, none⟩) (Kd.R_types HO_5.out BK555.out (by decide)) (fun _ hk => hk.2) (.int .i64 ((rd_T97 ((rd_T95 l0 x6_4).f1) x8_4).f0))) (fun _ hk => hk.2) (.int .i64 ((rd_T97 ((rd_T95 l0 x6_4).f1) x8_4).f1))) (fun _ h_ => h_.1)))) (Kd.R_typed (rq ((Kd.R_mono (Kd.R_far (p := ⟨gb555, 1, none⟩) (Kd.R_far (p := ⟨gb555, 0, none⟩) (Kd.R_types HO_7.out BK555.out (by decide)) (fun _ hk => hk.2) (.int .i64 ((rd_T97 ((rd_T95 l0 x6_4).f1) x8_4).f0))) (fun _ hk => hk.2) (.int .i64 ((rd_T97 ((rd_T95 l0 x6_4).f1) x8_4).f1))) (fun _ h_ => h_.1))))) (by decide) hg); replace BK555 := am (blk_grown (g := gb555) (o := .cells #[.int .i64 ((rd_T97 ((rd_T95 l0 x6_4).f1) x8_4).f0), .int .i64 ((rd_T97 ((rd_T95 l0 x6_4).f1) x8_4).f1)] 97 (0, 0)) (by (with_reducible repeat (fail)); refine blk_put (cs := #[.int .i64 ((rd_T97 ((rd_T95 l0 x6_4).f1) x8_4).f0), .int .i64 0]) ?_ 1 _ rfl; (with_reducible repeat (fail)); refine blk_put (cs := #[.int .i64 0, .int .i64 0]) ?_ 0 _ rfl; (with_reducible repeat (fail)); exact BK555.out) hg (Kd.R_ne HO_7.out BK555.out (by decide))); replace HB := am (hb); have HO559 := am (ho); clear HO_7; clear ho hb hg hat; have hcz37_0 : w36.cell? ⟨gb555, 0, none⟩ = some (.int .i64 ((rd_T97 ((rd_T95 l0 x6_4).f1) x8_4).f0)) := bd BK555.out 0; have hcz37_1 : w36.cell? ⟨gb555, 1, none⟩ = some (.int .i64 ((rd_T97 ((rd_T95 l0 x6_4).f1) x8_4).f1)) := bd BK555.out 1; have hfz37_0 := bf BK555.out 0; have hfz37_1 := bf BK555.out 1))
           go_roundg k4
           case measure => have := HJ2.out; have := HK2.out; have := HJ19.out; have := HK4.out; omega
           case rel => exact ⟨(x1_4), ((rd_T97 ((rd_T95 l0 x6_4).f1) x8_4).f1), (y557), sq, sq, H', ⟨b107_⟩, ⟨rq HO_5.out⟩, ⟨rq HO559.out⟩, ⟨bel1 GE555.out⟩⟩
          rw [if_neg c31] at H; have c31b0 := decide_eq_false c31; clear c31
          have H' := am H
          clear H
          have p552 : 0 ≤ (x6_4 : Int) := of_decide_eq_true ad
          have q552 : x6_4 < (l0.length : Int) := of_decide_eq_true ad
          obtain ⟨ad552, A552_1, c552_1, e552, hx552_0, hx552_1, hl552_1, hi552_1⟩ := at_T95 HR0.out x6_4 p552 q552
          obtain rfl : ad551 = ad552 := (by injection e552)
          replace hx552_0 := kp HB.out hx552_0; replace hx552_1 := kp HB.out hx552_1; have HR552_1 := am hi552_1; have HC552_1 := am hl552_1; clear hi552_1 hl552_1; replace p552 := eq_true p552; replace q552 := eq_true q552
          have p553 : 0 ≤ (x6_4 : Int) := of_decide_eq_true ad
          have q553 : x6_4 < (l0.length : Int) := of_decide_eq_true ad
          obtain ⟨ad553, A553_1, c553_1, e553, hx553_0, hx553_1, hl553_1, hi553_1⟩ := at_T95 HR0.out x6_4 p553 q553
          obtain rfl : ad551 = ad553 := (by injection e553)
          replace hx553_0 := kp HB.out hx553_0; replace hx553_1 := kp HB.out hx553_1; have HR553_1 := am hi553_1; have HC553_1 := am hl553_1; clear hi553_1 hl553_1; replace p553 := eq_true p553; replace q553 := eq_true q553; have ea_ := Option.some.inj (hx552_1.symm.trans hx553_1)
          injection ea_ with ea_ en_ ec_
          subst ea_; subst ec_; clear en_
          have p554 : 0 ≤ (x8_4 : Int) := of_decide_eq_true ad
          have q554 : x8_4 < (((rd_T95 l0 x6_4).f1).length : Int) := of_decide_eq_true ad
          obtain ⟨ad554, e554, hx554_0, hx554_1⟩ := at_T97 HR553_1.out x8_4 p554 q554; cases e554; replace hx554_0 := kp HB.out hx554_0; replace hx554_1 := kp HB.out hx554_1; replace p554 := eq_true p554; replace q554 := eq_true q554
          go_wp2_with ((with_reducible refine gate_dst (N := 9) rfl ?_); refine bx 9 (cs := #[.int .i64 0, .int .i64 0]) (t := 97) ?_; intro gb555 hg w38 hbox hb; replace HO_5 := am (Kd.R_below (rq HO_5.out) hb); replace HO_7 := am (Kd.R_below (rq HO_7.out) hb); have BK555 := am (hbox); have GW555 := am ((b17_ : w.heap.size ≤ gb555)); have GE555 := am ((b17_ : w.heap.size ≤ gb555)); replace HB := am (below_step bel hb); clear hb hbox hg; have ⟨hcz39_0, hcz39_1, hfz39_0, hfz39_1⟩ := b2c BK555.out; obtain ⟨Ao40, co40, eo40⟩ := Kd.R_slice HO_5.out; subst eo40; have p556 : 0 ≤ (((rd_T97 ((rd_T95 l0 x6_4).f1) x8_4).f1) : Int) := of_decide_eq_true ad; have q556 : ((rd_T97 ((rd_T95 l0 x6_4).f1) x8_4).f1) < (t545.length : Int) := of_decide_eq_true ad; obtain ⟨ad556, e556, hx556_0⟩ := Kd.at_int (Kd.R_reads' HO_5.out).2.2 ((rd_T97 ((rd_T95 l0 x6_4).f1) x8_4).f1) p556 q556; cases e556; have hn556_0 : ad556.block ≠ gb555 := b59_; have hn556_1 : ad556.block ≠ gb555 := b59_; replace hx556_0 := (cell_far (p := ⟨gb555, 0, none⟩) (by (rw [add_block]; exact hn556_0)) (.int .i64 ((rd_T97 ((rd_T95 l0 x6_4).f1) x8_4).f0))).trans hx556_0; replace hx556_0 := (cell_far (p := ⟨gb555, 1, none⟩) (by (rw [add_block]; exact hn556_1)) (.int .i64 ((rd_T97 ((rd_T95 l0 x6_4).f1) x8_4).f1))).trans hx556_0; clear hn556_0; clear hn556_1; replace p556 := eq_true p556; replace q556 := eq_true q556; have p560 : 0 ≤ (((rd_T97 ((rd_T95 l0 x6_4).f1) x8_4).f1) : Int) := of_decide_eq_true ad; have q560 : ((rd_T97 ((rd_T95 l0 x6_4).f1) x8_4).f1) < (t545.length : Int) := of_decide_eq_true ad; obtain ⟨ad560, e560, hx560_0⟩ := Kd.at_int (Kd.R_reads' HO_5.out).2.2 ((rd_T97 ((rd_T95 l0 x6_4).f1) x8_4).f1) p560 q560; obtain rfl : ad556 = ad560 := (by injection e560); have hn560_0 : ad556.block ≠ gb555 := b59_; have hn560_1 : ad556.block ≠ gb555 := b59_; replace hx560_0 := (cell_far (p := ⟨gb555, 0, none⟩) (by (rw [add_block]; exact hn560_0)) (.int .i64 ((rd_T97 ((rd_T95 l0 x6_4).f1) x8_4).f0))).trans hx560_0; replace hx560_0 := (cell_far (p := ⟨gb555, 1, none⟩) (by (rw [add_block]; exact hn560_1)) (.int .i64 ((rd_T97 ((rd_T95 l0 x6_4).f1) x8_4).f1))).trans hx560_0; clear hn560_0; clear hn560_1; replace p560 := eq_true p560; replace q560 := eq_true q560)
          go_roundg k4
          case measure => have := HJ2.out; have := HK2.out; have := HJ19.out; have := HK4.out; omega
          case rel => exact ⟨(wrap64 (x1_4 - (rd t545 ((rd_T97 ((rd_T95 l0 x6_4).f1) x8_4).f1)))), (x6_4), (x7_4), (wrap64 (x8_4 + 1)), sq, sq, sq, H', ⟨b107_⟩, ⟨rq (Kd.R_mono (Kd.R_far (p := ⟨gb555, 1, none⟩) (Kd.R_far (p := ⟨gb555, 0, none⟩) (Kd.R_types HO_5.out BK555.out (by decide)) (fun _ hk => hk.2) (.int .i64 ((rd_T97 ((rd_T95 l0 x6_4).f1) x8_4).f0))) (fun _ hk => hk.2) (.int .i64 ((rd_T97 ((rd_T95 l0 x6_4).f1) x8_4).f1))) (fun _ hk => trivial))⟩, ⟨rq (Kd.R_mono (Kd.R_far (p := ⟨gb555, 1, none⟩) (Kd.R_far (p := ⟨gb555, 0, none⟩) (Kd.R_types HO_7.out BK555.out (by decide)) (fun _ hk => hk.2) (.int .i64 ((rd_T97 ((rd_T95 l0 x6_4).f1) x8_4).f0))) (fun _ hk => hk.2) (.int .i64 ((rd_T97 ((rd_T95 l0 x6_4).f1) x8_4).f1))) (fun _ hk => trivial))⟩, ⟨bel1 GE555.out⟩⟩
         rw [if_neg c27] at H; have c27b0 := decide_eq_false c27; clear c27
         have H' := am H
         clear H
         have p552 : 0 ≤ (x6_4 : Int) := of_decide_eq_true ad
         have q552 : x6_4 < (l0.length : Int) := of_decide_eq_true ad
         obtain ⟨ad552, A552_1, c552_1, e552, hx552_0, hx552_1, hl552_1, hi552_1⟩ := at_T95 HR0.out x6_4 p552 q552
         obtain rfl : ad551 = ad552 := (by injection e552)
         replace hx552_0 := kp HB.out hx552_0; replace hx552_1 := kp HB.out hx552_1; have HR552_1 := am hi552_1; have HC552_1 := am hl552_1; clear hi552_1 hl552_1; replace p552 := eq_true p552; replace q552 := eq_true q552; go_wp2
         go_roundg k4
         case measure => have := HJ2.out; have := HK2.out; have := HJ19.out; have := HK4.out; omega
         case rel => exact ⟨(x1_4), (x6_4), (x7_4), sq, sq, H', ⟨b107_⟩, ⟨rq HO_5.out⟩, ⟨rq HO_7.out⟩, ⟨bel⟩⟩
-- shrunk

/-! ### spec_DrawMachineGuesses: function 21 -/
def spec_DrawMachineGuesses.j0 : Nat → List (S95) → ByteArray → Bool → List Int → Int → Option ((List (S95)) × ByteArray)
 | 0, _, _, _, _, _ => none
 | k + 1, x5, x6, x20, x564000, x564001 => if x20 = true then ((spec_MachineCount.f k x5).bind fun t573 => (if t573 > 0 then ((spec_l1Rd_pick.f k x564000 x564001 t573).bind fun bt574 => ((spec_MachineWord.f k x5 bt574.1).bind fun t576 => ((spec_l13Other.f k x564000 bt574.2 t576).bind fun bt577 => (some (x5, bt577.1))))) else (some (x5, x6)))) else (some (x5, x6))
def spec_DrawMachineGuesses.f (k : Nat) (l0 : List Int) : Option ((List (S95)) × ByteArray) := (spec_l1Open.f l0).bind fun bt561 => ((spec_l13AnyMachine.f k bt561.1 bt561.2).bind fun bt564 => ((spec_l13AnyWord.f k bt561.1 bt564.2).bind fun bt568 => ((spec_l3Small.f k bt564.1).bind fun t570 => (if t570 = true then ((spec_l1Rd_pick.f k bt561.1 bt568.2 2).bind fun bt571 => (spec_DrawMachineGuesses.j0 k bt564.1 bt568.1 (bt571.1 == 0) bt561.1 bt571.2)) else (spec_DrawMachineGuesses.j0 k bt564.1 bt568.1 false bt561.1 bt568.2)))))
theorem spec_DrawMachineGuesses.calls (k : Nat) (A0 : Option Addr) (c0 : Nat) (l0 : List Int) (r1 : List (S95)) (r2 : ByteArray) (w : World) (hr0 : Kd.C (Kd.int .u8) w A0 l0.length l0) (hc0 : l0.length ≤ c0) (h : spec_DrawMachineGuesses.f k l0 = some (r1, r2)) :
  Calls Try.prog 21 #[.slice A0 l0.length c0] w fun e w' => ∃ v0_ : Value, e = .returned (.tuple #[v0_, .string r2]) ∧ Kd.S k95 95 w' w.heap.size (fun _ => True) v0_ r1 ∧ Below w.heap.size w w' := by
 have HR0 := am hr0; have HC0 := am hc0; clear hr0 hc0; have HB := am (Below.refl w.heap.size w)
 have H := h; unfold spec_DrawMachineGuesses.f at H
 clear h; replace H := bs H; obtain ⟨⟨t561, t562⟩, A20, H⟩ := H; dsimp only at H; have A2 := Aside0.mk A20; clear A20; replace H := bs H; obtain ⟨⟨t564, t567⟩, A30, H⟩ := H; dsimp only at H; have A3 := Aside0.mk A30; clear A30; replace H := bs H; obtain ⟨⟨t568, t569⟩, A40, H⟩ := H; dsimp only at H; have A4 := Aside0.mk A40; clear A40; have HC5 := am H; clear H; go_enter Try.func21, Try.ntmps21
 go_upto_region 4 with (first | ((with_reducible refine gate_callee (f := 51) rfl ?_); refine gl 9 Try.func51 #[.slice A0 l0.length c0] ?_; (with_reducible refine (spec_l1Open.calls _ _ l0 t561 t562 w _ ?side1 ?side2 ?side3 A2.out).mono ?_); (case side1 => repeat (with_reducible exact HB.out)); (case side2 => exact HR0.out); (case side3 => exact HC0.out); rintro e w6 ⟨g563, rfl, hi, hb, hb2⟩; refine ⟨_, rfl, ?_⟩; replace HB := am (hb); have HI563 := am (hi); clear hb hb2 hi) | ((with_reducible refine gate_callee (f := 63) rfl ?_); refine gl 11 Try.func63 #[.pointer (some ⟨g563, 0, none⟩)] ?_; (with_reducible refine (spec_l13AnyMachine.calls k g563 t561 t562 t564 t567 w _ ?side1 ?side2 A3.out).mono ?_); (case side1 => repeat (with_reducible exact HI563.out)); (case side2 => repeat (with_reducible exact HB.out)); rintro e w7 ⟨v565, rfl, ho0, hi, hb, hk⟩; refine ⟨_, rfl, ?_⟩; have HO566 := am (Kd.S_lower ho0 (below_size b13_)); replace HB := am (hb); replace HI563 := am (hi); clear hb hk hi; clear ho0) | ((with_reducible refine gate_callee (f := 64) rfl ?_); refine gl 13 Try.func64 #[.pointer (some ⟨g563, 0, none⟩)] ?_; (with_reducible refine (spec_l13AnyWord.calls k g563 t561 t567 t568 t569 w _ ?side1 ?side2 A4.out).mono ?_); (case side1 => repeat (with_reducible exact HI563.out)); (case side2 => repeat (with_reducible exact HB.out)); rintro e w8 ⟨rfl, hi, hb, hk⟩; refine ⟨_, rfl, ?_⟩; replace HO566 := am (Kd.S_mono (Kd.S_keep (IsS114.apartS (show IsS114 w _ g563 t561 t567 from by repeat (with_reducible exact HI563.out)) b55_ (by decide)) hk (fun _ h => h.2)) (fun _ h => h.1)); replace HB := am (hb); replace HI563 := am (hi); clear hb hk hi))
 go_cut [20] (fun v20 wc => ∃ (kq : Nat) (x20_4 : Bool) (x564001_4 : Int), v20 = .bool x20_4 ∧ Aside0 (spec_DrawMachineGuesses.j0 kq t564 t568 x20_4 t561 x564001_4 = some (r1, r2)) ∧ Aside0 (kq ≤ k) ∧ Aside0 (Kd.S k95 95 wc w.heap.size (fun _ => True) v565 t564) ∧ Aside0 (IsS114 w wc g563 t561 x564001_4) ∧ Aside0 (Below w.heap.size w wc))
 case first =>
  have H := HC5.out; clear HC5; replace H := bs H; obtain ⟨t570, A90, H⟩ := H; have A9 := Aside0.mk A90; clear A90
  by_cases c10 : t570 = true
  ·subst c10
   rw [if_pos rfl] at H; replace H := bs H; obtain ⟨⟨t571, t572⟩, A110, H⟩ := H; dsimp only at H; have A11 := Aside0.mk A110; clear A110
   have H' := am H
   clear H; obtain ⟨Ao12, co12, eo12⟩ := Kd.S_slice HO566.out; subst eo12
   go_wp2_with (first | ((with_reducible refine gate_callee (f := 65) rfl ?_); refine gl 15 Try.func65 #[.slice Ao12 t564.length co12] ?_; (with_reducible refine (spec_l3Small.calls k _ _ t564 true _ ?side1 ?side2 A9.out).mono ?_); (case side1 => exact cq (Kd.S_reads' HO566.out).2.2); (case side2 => exact (Kd.S_reads' HO566.out).2.1); rintro e w13 ⟨rfl, hb⟩; refine ⟨_, rfl, ?_⟩; replace HO566 := am (Kd.S_below b55_ hb); replace HB := am (below_step b13_ hb); replace HI563 := am (IsS114.below b28_ hb); clear hb) | (go_at_call 53; (with_reducible refine (spec_l1Rd_pick.calls k g563 t561 t569 2 t571 t572 w _ ?side1 ?side2 A11.out).mono ?_); (case side1 => repeat (with_reducible exact HI563.out)); (case side2 => repeat (with_reducible exact HB.out)); rintro e w14 ⟨rfl, hi, hb, hk⟩; replace HO566 := am (Kd.S_mono (Kd.S_keep (IsS114.apartS (show IsS114 w _ g563 t561 t569 from by repeat (with_reducible exact HI563.out)) b55_ (by decide)) hk (fun _ h => h.2)) (fun _ h => h.1)); replace HB := am (hb); replace HI563 := am (hi); clear hb hk hi))
   go_meet
   case rel => exact ⟨_, ((t571 == 0)), (t572), sq, H', ⟨b54_⟩, ⟨b55_⟩, ⟨b28_⟩, ⟨b13_⟩⟩
  replace c10 := Bool.eq_false_iff.mpr c10; subst c10
  rw [if_neg Bool.false_ne_true] at H
  have H' := am H
  clear H; obtain ⟨Ao15, co15, eo15⟩ := Kd.S_slice HO566.out; subst eo15
  go_wp2_with ((with_reducible refine gate_callee (f := 65) rfl ?_); refine gl 15 Try.func65 #[.slice Ao15 t564.length co15] ?_; (with_reducible refine (spec_l3Small.calls k _ _ t564 false _ ?side1 ?side2 A9.out).mono ?_); (case side1 => exact cq (Kd.S_reads' HO566.out).2.2); (case side2 => exact (Kd.S_reads' HO566.out).2.1); rintro e w16 ⟨rfl, hb⟩; refine ⟨_, rfl, ?_⟩; replace HO566 := am (Kd.S_below b55_ hb); replace HB := am (below_step b13_ hb); replace HI563 := am (IsS114.below b28_ hb); clear hb)
  go_meet
  case rel => exact ⟨_, (false), (t569), sq, H', ⟨b54_⟩, ⟨b55_⟩, ⟨b28_⟩, ⟨b13_⟩⟩
 case rest =>
  clear HC5; obtain ⟨kq, x20_4, x564001_4, rfl, HA, HJ4, HO_5, HI563, HB⟩ := hcut
  cases kq with
  | zero => exact absurd HA.out (by simp [spec_DrawMachineGuesses.j0])
  | succ kj4 =>
   have H := HA.out; clear HA; simp only [spec_DrawMachineGuesses.j0] at H
   by_cases c17 : x20_4 = true
   ·subst c17
    rw [if_pos rfl] at H
    replace H := bs H; obtain ⟨t573, A180, H⟩ := H; have A18 := Aside0.mk A180; clear A180
    by_cases c19 : t573 > 0
    ·rw [if_pos c19] at H; have c19b0 := decide_eq_true c19; clear c19; replace H := bs H; obtain ⟨⟨t574, t575⟩, A200, H⟩ := H; dsimp only at H; have A20 := Aside0.mk A200; clear A200; replace H := bs H; obtain ⟨t576, A210, H⟩ := H; have A21 := Aside0.mk A210; clear A210; replace H := bs H; obtain ⟨⟨t577, t578⟩, A220, H⟩ := H; dsimp only at H; have A22 := Aside0.mk A220; clear A220
     simp only [Option.some.injEq, Prod.mk.injEq] at H; obtain ⟨rfl, rfl⟩ := H; obtain ⟨Ao23, co23, eo23⟩ := Kd.S_slice HO_5.out; subst eo23
     go_wp2_with (first | ((with_reducible refine gate_callee (f := 66) rfl ?_); refine gl 22 Try.func66 #[.slice Ao23 t564.length co23] ?_; (with_reducible refine (spec_MachineCount.calls kj4 _ _ t564 t573 _ ?side1 ?side2 A18.out).mono ?_); (case side1 => exact cq (Kd.S_reads' HO_5.out).2.2); (case side2 => exact (Kd.S_reads' HO_5.out).2.1); rintro e w24 ⟨rfl, hb⟩; refine ⟨_, rfl, ?_⟩; replace HO_5 := am (Kd.S_below b7_ hb); replace HB := am (below_step b13_ hb); replace HI563 := am (IsS114.below b28_ hb); clear hb) | ((with_reducible refine gate_callee (f := 53) rfl ?_); refine gl 29 Try.func53 #[.pointer (some ⟨g563, 0, none⟩), .int .i64 t573] ?_; (with_reducible refine (spec_l1Rd_pick.calls kj4 g563 t561 x564001_4 t573 t574 t575 w _ ?side1 ?side2 A20.out).mono ?_); (case side1 => repeat (with_reducible exact HI563.out)); (case side2 => repeat (with_reducible exact HB.out)); rintro e w25 ⟨rfl, hi, hb, hk⟩; refine ⟨_, rfl, ?_⟩; replace HO_5 := am (Kd.S_mono (Kd.S_keep (IsS114.apartS (show IsS114 w _ g563 t561 x564001_4 from by repeat (with_reducible exact HI563.out)) b7_ (by decide)) hk (fun _ h => h.2)) (fun _ h => h.1)); replace HB := am (hb); replace HI563 := am (hi); clear hb hk hi) | ((with_reducible refine gate_callee (f := 68) rfl ?_); refine gl 30 Try.func68 #[.slice Ao23 t564.length co23, .int .i64 t574] ?_; (with_reducible refine (spec_MachineWord.calls kj4 _ _ t564 t574 t576 _ ?side1 ?side2 A21.out).mono ?_); (case side1 => exact cq (Kd.S_reads' HO_5.out).2.2); (case side2 => exact (Kd.S_reads' HO_5.out).2.1); rintro e w26 ⟨rfl, hb⟩; refine ⟨_, rfl, ?_⟩; replace HO_5 := am (Kd.S_below b7_ hb); replace HB := am (below_step b13_ hb); replace HI563 := am (IsS114.below b28_ hb); clear hb) | ((with_reducible refine gate_callee (f := 67) rfl ?_); refine gl 31 Try.func67 #[.pointer (some ⟨g563, 0, none⟩), .string t576] ?_; (with_reducible refine (spec_l13Other.calls kj4 g563 t561 t575 t576 t577 t578 w _ ?side1 ?side2 A22.out).mono ?_); (case side1 => repeat (with_reducible exact HI563.out)); (case side2 => repeat (with_reducible exact HB.out)); rintro e w27 ⟨rfl, hi, hb, hk⟩; refine ⟨_, rfl, ?_⟩; replace HO_5 := am (Kd.S_mono (Kd.S_keep (IsS114.apartS (show IsS114 w _ g563 t561 t575 from by repeat (with_reducible exact HI563.out)) b7_ (by decide)) hk (fun _ h => h.2)) (fun _ h => h.1)); replace HB := am (hb); replace HI563 := am (hi); clear hb hk hi))
     go_ret2
     exact ⟨_, eq_, b7_, b13_⟩
    rw [if_neg c19] at H; have c19b0 := decide_eq_false c19; clear c19; simp only [Option.some.injEq, Prod.mk.injEq] at H; obtain ⟨rfl, rfl⟩ := H; obtain ⟨Ao28, co28, eo28⟩ := Kd.S_slice HO_5.out; subst eo28
    go_wp2_with ((with_reducible refine gate_callee (f := 66) rfl ?_); refine gl 22 Try.func66 #[.slice Ao28 t564.length co28] ?_; (with_reducible refine (spec_MachineCount.calls kj4 _ _ t564 t573 _ ?side1 ?side2 A18.out).mono ?_); (case side1 => exact cq (Kd.S_reads' HO_5.out).2.2); (case side2 => exact (Kd.S_reads' HO_5.out).2.1); rintro e w29 ⟨rfl, hb⟩; refine ⟨_, rfl, ?_⟩; replace HO_5 := am (Kd.S_below b7_ hb); replace HB := am (below_step b13_ hb); replace HI563 := am (IsS114.below b28_ hb); clear hb)
    go_ret2
    exact ⟨_, eq_, b7_, b13_⟩
   replace c17 := Bool.eq_false_iff.mpr c17; subst c17
   rw [if_neg Bool.false_ne_true] at H; simp only [Option.some.injEq, Prod.mk.injEq] at H
   obtain ⟨rfl, rfl⟩ := H; go_wp2
   go_ret2
   exact ⟨_, eq_, b7_, b13_⟩

/-! ### impl_within: function 77 -/
def impl_within.f (a0 : Int) (a1 : Int) (a2 : Int) : Option (Bool) := if a0 ≥ a1 then (some (decide (a0 ≤ a2))) else (some false)
theorem impl_within.calls (a0 : Int) (a1 : Int) (a2 : Int) (r : Bool) (w : World) (h : impl_within.f a0 a1 a2 = some r) :
  Calls Try.prog 77 #[.int .i64 a0, .int .i64 a1, .int .i64 a2] w fun e w' => e = .returned (.bool r) ∧ Drawn0 w w' := by
 have H := h; unfold impl_within.f at H
 clear h
 by_cases c4 : a0 ≥ a1
 ·rw [if_pos c4] at H; have c4b0 := decide_eq_true c4; clear c4; obtain rfl := Option.some.inj H; go_enter Try.func77, Try.ntmps77; go_wp2; go_ret
  exact ⟨sq, dr⟩
 rw [if_neg c4] at H; have c4b0 := decide_eq_false c4; clear c4; obtain rfl := Option.some.inj H; go_enter Try.func77, Try.ntmps77; go_wp2; go_ret
 exact ⟨sq, dr⟩
end Go.Proofs.Ytdfnijaacnlfaaa.QFnMachineGuesses
