import Derived.Test.YtfpmfaelodfecaaQFnMachineWordx0
import Derived.Test.YtfpmfaelodfecaaVMSh2
namespace Go.Proofs.Ytfpmfaelodfecaa.QFnMachineWord
open Go.RowKit Go.Proofs.YtfpmfaelodfecaaW.PrintWords Go.Proofs.YtfpmfaelodfecaaW.PrintLast Go.Proofs.YtfpmfaelodfecaaW.PrintMore Go.Proofs.Ytfpmfaelodfecaa.Sh
attribute [local go_sem] max2_int min2_int max_two min_two max_three min_three max_four min_four   -- for this text's walks alone
set_option linter.unusedVariables false
set_option linter.unusedSimpArgs false
-- shrunk

/-! ### spec_l2Has: function 197 -/
def spec_l2Has.l0 : Nat → ByteArray → ByteArray → Int → Option (Bool)
 | 0, _, _, _ => none
 | k + 1, x0, x1, x5 => if x5 < (x0.size : Int) then (if 0 ≤ x5 then (if x5 ≤ (wrap64 (x5 + 1)) then (if (wrap64 (x5 + 1)) ≤ (x0.size : Int) then (if (x0.extract (x5 : Int).toNat ((wrap64 (x5 + 1)) : Int).toNat).toList = x1.toList then (some true) else (spec_l2Has.l0 k x0 x1 (wrap64 (x5 + 1)))) else (none)) else (none)) else (none)) else (some false)
def spec_l2Has.f (k : Nat) (a0 : ByteArray) (a1 : ByteArray) : Option (Bool) := spec_l2Has.l0 k a0 a1 0
set_option maxHeartbeats 8000000 in
set_option maxRecDepth 100000 in
theorem spec_l2Has.calls (k : Nat) (a0 : ByteArray) (a1 : ByteArray) (r : Bool) (w : World) (h : spec_l2Has.f k a0 a1 = some r) :
  Calls Try.prog 197 #[.string a0, .string a1] w fun e w' => e = .returned (.bool r) ∧ Drawn0 w w' := by
 have H : (spec_l2Has.l0 k a0 a1 0) = some r := h
 clear h
 have H' := am H
 clear H; go_enter Try.func197, Try.ntmps197; go_wp2
 go_loopg [5] k (fun kq v5 w' => ∃ (x5_1 : Int), v5 = .int .i64 x5_1 ∧ Aside0 (spec_l2Has.l0 kq a0 a1 x5_1 = some r) ∧ Aside0 (kq ≤ k) ∧ Drawn0 w w')
 case atStart => exact ⟨(0), sq, H', ⟨Nat.le_refl _⟩, dr⟩
 case round =>
  clear H'; (try clear c1); (try clear p2); obtain ⟨x5_1, rfl, HA, HK1, ⟨m1, rfl⟩⟩ := hrel
  cases gk with
  | zero => exact absurd HA.out (by simp [spec_l2Has.l0])
  | succ k1 =>
   have H := HA.out; clear HA
   simp only [spec_l2Has.l0] at H
   by_cases c3 : x5_1 < (a0.size : Int)
   ·rw [if_pos c3] at H; have c3b0 := decide_eq_true c3; clear c3
    by_cases c4 : 0 ≤ x5_1
    ·rw [if_pos c4] at H; have c4b0 := eq_true c4
     have c4b1 : decide (0 ≤ x5_1) = true := decide_eq_true c4
     clear c4
     by_cases c5 : x5_1 ≤ (wrap64 (x5_1 + 1))
     ·rw [if_pos c5] at H; have c5b0 := eq_true c5
      have c5b1 : decide (x5_1 ≤ (wrap64 (x5_1 + 1))) = true := decide_eq_true c5
      by_cases c6 : (wrap64 (x5_1 + 1)) ≤ (a0.size : Int)
      ·rw [if_pos c6] at H; have c6b0 := eq_true c6
       have c6b1 : decide ((wrap64 (x5_1 + 1)) ≤ (a0.size : Int)) = true := decide_eq_true c6
       by_cases c7 : (a0.extract (x5_1 : Int).toNat ((wrap64 (x5_1 + 1)) : Int).toNat).toList = a1.toList
       ·rw [if_pos c7] at H
        have c7b0 : ((a0.extract (x5_1 : Int).toNat ((wrap64 (x5_1 + 1)) : Int).toNat).toList == a1.toList) = true := beq_iff_eq.mpr c7
        have c7b1 : ((a0.extract (x5_1 : Int).toNat ((wrap64 (x5_1 + 1)) : Int).toNat).toList != a1.toList) = false := bne_eq_false_iff_eq.mpr c7
        clear c7; obtain rfl := Option.some.inj H; go_wp2; go_ret
        exact ⟨sq, dr⟩
       ·rw [if_neg c7] at H
        have c7b0 : ((a0.extract (x5_1 : Int).toNat ((wrap64 (x5_1 + 1)) : Int).toNat).toList == a1.toList) = false := beq_eq_false_iff_ne.mpr c7
        have c7b1 : ((a0.extract (x5_1 : Int).toNat ((wrap64 (x5_1 + 1)) : Int).toNat).toList != a1.toList) = true := bne_iff_ne.mpr c7
        have H' := am H
        clear H; go_wp2
        go_roundg k1
        case measure => have := HK1.out; omega
        case rel => exact ⟨(wrap64 (x5_1 + 1)), sq, H', ⟨b61_⟩, dr⟩
      ·rw [if_neg c6] at H
       exact absurd H (by simp)
     ·rw [if_neg c5] at H
      exact absurd H (by simp)
    ·rw [if_neg c4] at H
     exact absurd H (by simp)
   ·rw [if_neg c3] at H; have c3b0 := decide_eq_false c3; clear c3; obtain rfl := Option.some.inj H; go_wp2; go_ret
    exact ⟨sq, dr⟩

/-! ### spec_l1Letters: function 102 -/
def spec_l1Letters.l0 : Nat → ByteArray → Int → Int → Option (Bool)
 | 0, _, _, _ => none
 | k + 1, x0, x1, x5 => if x5 < (x0.size : Int) then (if 0 ≤ x5 then (if (bt x0 x5) < 97 then (some false) else (if (bt x0 x5) > 122 then (some false) else (spec_l1Letters.l0 k x0 x1 (wrap64 (x5 + 1))))) else (none)) else (some (decide ((x0.size : Int) ≤ x1)))
def spec_l1Letters.f (k : Nat) (a0 : ByteArray) (a1 : Int) : Option (Bool) := spec_l1Letters.l0 k a0 a1 0
set_option maxHeartbeats 8000000 in
set_option maxRecDepth 100000 in
theorem spec_l1Letters.calls (k : Nat) (a0 : ByteArray) (a1 : Int) (r : Bool) (w : World) (h : spec_l1Letters.f k a0 a1 = some r) :
  Calls Try.prog 102 #[.string a0, .int .i64 a1] w fun e w' => e = .returned (.bool r) ∧ Drawn0 w w' := by
 have H : (spec_l1Letters.l0 k a0 a1 0) = some r := h
 clear h
 have H' := am H
 clear H; go_enter Try.func102, Try.ntmps102; go_wp2
 go_loopg [5] k (fun kq v5 w' => ∃ (x5_1 : Int), v5 = .int .i64 x5_1 ∧ Aside0 (spec_l1Letters.l0 kq a0 a1 x5_1 = some r) ∧ Aside0 (kq ≤ k) ∧ Drawn0 w w')
 case atStart => exact ⟨(0), sq, H', ⟨Nat.le_refl _⟩, dr⟩
 case round =>
  clear H'; (try clear c1); (try clear p2); obtain ⟨x5_1, rfl, HA, HK1, ⟨m1, rfl⟩⟩ := hrel
  cases gk with
  | zero => exact absurd HA.out (by simp [spec_l1Letters.l0])
  | succ k1 =>
   have H := HA.out; clear HA
   simp only [spec_l1Letters.l0] at H
   by_cases c3 : x5_1 < (a0.size : Int)
   ·rw [if_pos c3] at H; have c3b0 := decide_eq_true c3; clear c3
    by_cases c4 : 0 ≤ x5_1
    ·rw [if_pos c4] at H; have c4b0 := decide_eq_true c4; clear c4
     by_cases c6 : (bt a0 x5_1) < 97
     ·rw [if_pos c6] at H; have c6b0 := decide_eq_true c6; clear c6; obtain rfl := Option.some.inj H
      have p5 : 0 ≤ (x5_1 : Int) := of_decide_eq_true ad
      have q5 : x5_1 < (a0.size : Int) := of_decide_eq_true ad
      have hx5 := bt_at a0 x5_1; replace p5 := eq_true p5; replace q5 := eq_true q5; go_wp2; go_ret
      exact ⟨sq, dr⟩
     ·rw [if_neg c6] at H; have c6b0 := decide_eq_false c6; clear c6
      by_cases c8 : (bt a0 x5_1) > 122
      ·rw [if_pos c8] at H; have c8b0 := decide_eq_true c8; clear c8; obtain rfl := Option.some.inj H
       have p5 : 0 ≤ (x5_1 : Int) := of_decide_eq_true ad
       have q5 : x5_1 < (a0.size : Int) := of_decide_eq_true ad
       have hx5 := bt_at a0 x5_1; replace p5 := eq_true p5; replace q5 := eq_true q5
       have p7 : 0 ≤ (x5_1 : Int) := of_decide_eq_true ad
       have q7 : x5_1 < (a0.size : Int) := of_decide_eq_true ad
       have hx7 := bt_at a0 x5_1; replace p7 := eq_true p7; replace q7 := eq_true q7; go_wp2; go_ret
       exact ⟨sq, dr⟩
      ·rw [if_neg c8] at H; have c8b0 := decide_eq_false c8; clear c8
       have H' := am H
       clear H
       have p5 : 0 ≤ (x5_1 : Int) := of_decide_eq_true ad
       have q5 : x5_1 < (a0.size : Int) := of_decide_eq_true ad
       have hx5 := bt_at a0 x5_1; replace p5 := eq_true p5; replace q5 := eq_true q5
       have p7 : 0 ≤ (x5_1 : Int) := of_decide_eq_true ad
       have q7 : x5_1 < (a0.size : Int) := of_decide_eq_true ad
       have hx7 := bt_at a0 x5_1; replace p7 := eq_true p7; replace q7 := eq_true q7; go_wp2
       go_roundg k1
       case measure => have := HK1.out; omega
       case rel => exact ⟨(wrap64 (x5_1 + 1)), sq, H', ⟨b61_⟩, dr⟩
    ·rw [if_neg c4] at H
     exact absurd H (by simp)
   ·rw [if_neg c3] at H; have c3b0 := decide_eq_false c3; clear c3; obtain rfl := Option.some.inj H; go_wp2; go_ret
    exact ⟨sq, dr⟩

/-! ### spec_l1Word: function 57 -/
def spec_l1Word.f (k : Nat) (a0 : ByteArray) : Option (Bool) := if (a0.size : Int) > 0 then ((spec_l1Letters.f k a0 12).bind fun t214 => (some t214)) else (some false)
set_option maxHeartbeats 8000000 in
set_option maxRecDepth 100000 in
theorem spec_l1Word.calls (k : Nat) (a0 : ByteArray) (r : Bool) (w : World) (h : spec_l1Word.f k a0 = some r) :
  Calls Try.prog 57 #[.string a0] w fun e w' => e = .returned (.bool r) ∧ Drawn0 w w' := by
 have H : (if (a0.size : Int) > 0 then ((spec_l1Letters.f k a0 12).bind fun t214 => (some t214)) else (some false)) = some r := h
 clear h
 by_cases c2 : (a0.size : Int) > 0
 ·rw [if_pos c2] at H; have c2b0 := decide_eq_true c2
  have c2b1 : decide (0 < a0.size) = true := decide_eq_true (by omega)
  clear c2; replace H := Option.bind_eq_some_iff.mp H; obtain ⟨t214, A30, H⟩ := H; replace H : (some t214) = some r := H; have A3 := Aside0.mk A30; clear A30; obtain rfl := Option.some.inj H; go_enter Try.func57, Try.ntmps57
  go_wp2_with (first | (go_at_call 102; (with_reducible refine (spec_l1Letters.calls k a0 12 t214 _ A3.out).mono ?_); rintro e w' ⟨rfl, ⟨nd, rfl⟩⟩))
  go_ret
  exact ⟨sq, dr⟩
 ·rw [if_neg c2] at H; have c2b0 := decide_eq_false c2
  have c2b1 : decide (0 < a0.size) = false := decide_eq_false (by omega)
  clear c2; obtain rfl := Option.some.inj H; go_enter Try.func57, Try.ntmps57; go_wp2; go_ret
  exact ⟨sq, dr⟩

/-! ### spec_l2Begins: function 170 -/
def spec_l2Begins.f (a0 : ByteArray) (a1 : ByteArray) : Option (Bool) := if (a0.size : Int) ≥ (a1.size : Int) then (if 0 ≤ (a1.size : Int) then (if (a1.size : Int) ≤ (a0.size : Int) then (some ((a0.extract 0 a1.size).toList == a1.toList)) else (none)) else (none)) else (some false)
set_option maxHeartbeats 8000000 in
set_option maxRecDepth 100000 in
theorem spec_l2Begins.calls (a0 : ByteArray) (a1 : ByteArray) (r : Bool) (w : World) (h : spec_l2Begins.f a0 a1 = some r) :
  Calls Try.prog 170 #[.string a0, .string a1] w fun e w' => e = .returned (.bool r) ∧ Drawn0 w w' := by
 have H : (if (a0.size : Int) ≥ (a1.size : Int) then (if 0 ≤ (a1.size : Int) then (if (a1.size : Int) ≤ (a0.size : Int) then (some ((a0.extract 0 a1.size).toList == a1.toList)) else (none)) else (none)) else (some false)) = some r := h
 clear h
 by_cases c3 : (a0.size : Int) ≥ (a1.size : Int)
 ·rw [if_pos c3] at H; have c3b0 := decide_eq_true c3
  have c3b1 : decide (a1.size ≤ a0.size) = true := decide_eq_true (Int.ofNat_le.mp c3)
  clear c3
  by_cases c4 : 0 ≤ (a1.size : Int)
  ·rw [if_pos c4] at H; have c4b0 := eq_true c4
   have c4b1 : decide (0 ≤ (a1.size : Int)) = true := decide_eq_true c4
   clear c4
   by_cases c5 : (a1.size : Int) ≤ (a0.size : Int)
   ·rw [if_pos c5] at H; have c5b0 := eq_true c5
    have c5b9 : (a1.size ≤ a0.size) = True := eq_true (by omega)
    have c5b6 : decide (a1.size ≤ a0.size) = true := decide_eq_true (by omega)
    have c5b1 : decide ((a1.size : Int) ≤ (a0.size : Int)) = true := decide_eq_true c5
    clear c5; obtain rfl := Option.some.inj H; go_enter Try.func170, Try.ntmps170; go_wp2; go_ret
    exact ⟨sq, dr⟩
   ·rw [if_neg c5] at H
    exact absurd H (by simp)
  ·rw [if_neg c4] at H
   exact absurd H (by simp)
 ·rw [if_neg c3] at H; have c3b0 := decide_eq_false c3
  have c3b1 : decide (a1.size ≤ a0.size) = false := decide_eq_false (fun h => c3 (Int.ofNat_le.mpr h))
  clear c3; obtain rfl := Option.some.inj H; go_enter Try.func170, Try.ntmps170; go_wp2; go_ret
  exact ⟨sq, dr⟩

/-! ### spec_l2Ends: function 171 -/
def spec_l2Ends.f (a0 : ByteArray) (a1 : ByteArray) : Option (Bool) := if (a0.size : Int) ≥ (a1.size : Int) then (if 0 ≤ (wrap64 ((a0.size : Int) - (a1.size : Int))) then (if (wrap64 ((a0.size : Int) - (a1.size : Int))) ≤ (a0.size : Int) then (some ((a0.extract ((wrap64 ((a0.size : Int) - (a1.size : Int))) : Int).toNat a0.size).toList == a1.toList)) else (none)) else (none)) else (some false)
set_option maxHeartbeats 8000000 in
set_option maxRecDepth 100000 in
theorem spec_l2Ends.calls (a0 : ByteArray) (a1 : ByteArray) (r : Bool) (w : World) (h : spec_l2Ends.f a0 a1 = some r) :
  Calls Try.prog 171 #[.string a0, .string a1] w fun e w' => e = .returned (.bool r) ∧ Drawn0 w w' := by
 have H : (if (a0.size : Int) ≥ (a1.size : Int) then (if 0 ≤ (wrap64 ((a0.size : Int) - (a1.size : Int))) then (if (wrap64 ((a0.size : Int) - (a1.size : Int))) ≤ (a0.size : Int) then (some ((a0.extract ((wrap64 ((a0.size : Int) - (a1.size : Int))) : Int).toNat a0.size).toList == a1.toList)) else (none)) else (none)) else (some false)) = some r := h
 clear h
 by_cases c3 : (a0.size : Int) ≥ (a1.size : Int)
 ·rw [if_pos c3] at H; have c3b0 := decide_eq_true c3
  have c3b1 : decide (a1.size ≤ a0.size) = true := decide_eq_true (Int.ofNat_le.mp c3)
  clear c3; obtain ⟨ji4, hji4⟩ : ∃ j_ : Int, (wrap64 ((a0.size : Int) - (a1.size : Int))) = j_ := ⟨_, rfl⟩
  replace H : (if 0 ≤ (ji4) then (if (ji4) ≤ (a0.size : Int) then (some ((a0.extract ((ji4) : Int).toNat a0.size).toList == a1.toList)) else (none)) else (none)) = some r := by first | (rw [hji4] at H; exact H) | (simp only [hji4] at H ⊢; exact H)
  have hji4w : (IntKind.i64.wrap ((a0.size : Int) - (a1.size : Int))) = ji4 := (i64_w _).trans hji4
  by_cases c5 : 0 ≤ (ji4)
  ·rw [if_pos c5] at H; have c5b0 := eq_true c5
   have c5b1 : decide (0 ≤ (ji4)) = true := decide_eq_true c5
   clear c5
   by_cases c6 : (ji4) ≤ (a0.size : Int)
   ·rw [if_pos c6] at H; have c6b0 := eq_true c6
    have c6b1 : decide ((ji4) ≤ (a0.size : Int)) = true := decide_eq_true c6
    clear c6; obtain rfl := Option.some.inj H; go_enter Try.func171, Try.ntmps171; go_wp2; go_ret
    exact ⟨by first | rfl | (simp; done) | (simp only [← hji4] <;> (first | rfl | simp)) | (simp [*]; done), dr⟩
   ·rw [if_neg c6] at H
    exact absurd H (by simp)
  ·rw [if_neg c5] at H
   exact absurd H (by simp)
 ·rw [if_neg c3] at H; have c3b0 := decide_eq_false c3
  have c3b1 : decide (a1.size ≤ a0.size) = false := decide_eq_false (fun h => c3 (Int.ofNat_le.mpr h))
  clear c3; obtain rfl := Option.some.inj H; go_enter Try.func171, Try.ntmps171; go_wp2; go_ret
  exact ⟨sq, dr⟩

/-! ### spec_l2Do: function 198 -/
def spec_l2Do.f (k : Nat) (a0_0 : ByteArray) (a0_1 : Bool) (a0_2 : ByteArray) (a0_3 : ByteArray) (a0_4 : ByteArray) (a1 : ByteArray) : Option (ByteArray × Bool) := if a0_1 = true then ((spec_l2Begins.f a1 a0_4).bind fun t216 => (if t216 = true then (if 0 ≤ (a0_2.size : Int) then (if (a0_2.size : Int) ≤ (a1.size : Int) then (if a0_3.size + (a1.extract a0_2.size a1.size).size ≤ 9223372036854775807 then ((spec_l1Word.f k (a0_3 ++ (a1.extract a0_2.size a1.size))).bind fun t217 => (some (a0_3 ++ (a1.extract a0_2.size a1.size), t217))) else (none)) else (none)) else (none)) else (some ((⟨#[]⟩ : ByteArray), false)))) else ((spec_l2Ends.f a1 a0_4).bind fun t218 => (if t218 = true then (if 0 ≤ (wrap64 ((a1.size : Int) - (a0_2.size : Int))) then (if (wrap64 ((a1.size : Int) - (a0_2.size : Int))) ≤ (a1.size : Int) then (if (a1.extract 0 ((wrap64 ((a1.size : Int) - (a0_2.size : Int))) : Int).toNat).size + a0_3.size ≤ 9223372036854775807 then ((spec_l1Word.f k ((a1.extract 0 ((wrap64 ((a1.size : Int) - (a0_2.size : Int))) : Int).toNat) ++ a0_3)).bind fun t219 => (some ((a1.extract 0 ((wrap64 ((a1.size : Int) - (a0_2.size : Int))) : Int).toNat) ++ a0_3, t219))) else (none)) else (none)) else (none)) else (some ((⟨#[]⟩ : ByteArray), false))))
set_option maxHeartbeats 8000000 in
set_option maxRecDepth 100000 in
theorem spec_l2Do.calls (k : Nat) (a0_0 : ByteArray) (a0_1 : Bool) (a0_2 : ByteArray) (a0_3 : ByteArray) (a0_4 : ByteArray) (a1 : ByteArray) (r1 : ByteArray) (r2 : Bool) (w : World) (h : spec_l2Do.f k a0_0 a0_1 a0_2 a0_3 a0_4 a1 = some (r1, r2)) :
  Calls Try.prog 198 #[.agg #[.string a0_0, .bool a0_1, .string a0_2, .string a0_3, .string a0_4], .string a1] w fun e w' => e = .returned (.tuple #[.string r1, .bool r2]) ∧ Below w.heap.size w w' := by
 have hu117 := Try.underlying117; have HB := am (Below.refl w.heap.size w)
 have H : (if a0_1 = true then ((spec_l2Begins.f a1 a0_4).bind fun t216 => (if t216 = true then (if 0 ≤ (a0_2.size : Int) then (if (a0_2.size : Int) ≤ (a1.size : Int) then (if a0_3.size + (a1.extract a0_2.size a1.size).size ≤ 9223372036854775807 then ((spec_l1Word.f k (a0_3 ++ (a1.extract a0_2.size a1.size))).bind fun t217 => (some (a0_3 ++ (a1.extract a0_2.size a1.size), t217))) else (none)) else (none)) else (none)) else (some ((⟨#[]⟩ : ByteArray), false)))) else ((spec_l2Ends.f a1 a0_4).bind fun t218 => (if t218 = true then (if 0 ≤ (wrap64 ((a1.size : Int) - (a0_2.size : Int))) then (if (wrap64 ((a1.size : Int) - (a0_2.size : Int))) ≤ (a1.size : Int) then (if (a1.extract 0 ((wrap64 ((a1.size : Int) - (a0_2.size : Int))) : Int).toNat).size + a0_3.size ≤ 9223372036854775807 then ((spec_l1Word.f k ((a1.extract 0 ((wrap64 ((a1.size : Int) - (a0_2.size : Int))) : Int).toNat) ++ a0_3)).bind fun t219 => (some ((a1.extract 0 ((wrap64 ((a1.size : Int) - (a0_2.size : Int))) : Int).toNat) ++ a0_3, t219))) else (none)) else (none)) else (none)) else (some ((⟨#[]⟩ : ByteArray), false))))) = some (r1, r2) := h
 clear h
 by_cases c3 : a0_1 = true
 ·subst c3
  have H1 : ((spec_l2Begins.f a1 a0_4).bind fun t216 => (if t216 = true then (if 0 ≤ (a0_2.size : Int) then (if (a0_2.size : Int) ≤ (a1.size : Int) then (if a0_3.size + (a1.extract a0_2.size a1.size).size ≤ 9223372036854775807 then ((spec_l1Word.f k (a0_3 ++ (a1.extract a0_2.size a1.size))).bind fun t217 => (some (a0_3 ++ (a1.extract a0_2.size a1.size), t217))) else (none)) else (none)) else (none)) else (some ((⟨#[]⟩ : ByteArray), false)))) = some (r1, r2) := b20_
  replace H := H1; clear H1
  replace H := Option.bind_eq_some_iff.mp H; obtain ⟨t216, A40, H⟩ := H; replace H : (if t216 = true then (if 0 ≤ (a0_2.size : Int) then (if (a0_2.size : Int) ≤ (a1.size : Int) then (if a0_3.size + (a1.extract a0_2.size a1.size).size ≤ 9223372036854775807 then ((spec_l1Word.f k (a0_3 ++ (a1.extract a0_2.size a1.size))).bind fun t217 => (some (a0_3 ++ (a1.extract a0_2.size a1.size), t217))) else (none)) else (none)) else (none)) else (some ((⟨#[]⟩ : ByteArray), false))) = some (r1, r2) := H; have A4 := Aside0.mk A40; clear A40
  by_cases c5 : t216 = true
  ·subst c5
   have H1 : (if 0 ≤ (a0_2.size : Int) then (if (a0_2.size : Int) ≤ (a1.size : Int) then (if a0_3.size + (a1.extract a0_2.size a1.size).size ≤ 9223372036854775807 then ((spec_l1Word.f k (a0_3 ++ (a1.extract a0_2.size a1.size))).bind fun t217 => (some (a0_3 ++ (a1.extract a0_2.size a1.size), t217))) else (none)) else (none)) else (none)) = some (r1, r2) := b20_
   replace H := H1; clear H1
   by_cases c6 : 0 ≤ (a0_2.size : Int)
   ·rw [if_pos c6] at H; have c6b0 := eq_true c6
    have c6b1 : decide (0 ≤ (a0_2.size : Int)) = true := decide_eq_true c6
    clear c6
    by_cases c7 : (a0_2.size : Int) ≤ (a1.size : Int)
    ·rw [if_pos c7] at H; have c7b0 := eq_true c7
     have c7b9 : (a0_2.size ≤ a1.size) = True := eq_true (by omega)
     have c7b6 : decide (a0_2.size ≤ a1.size) = true := decide_eq_true (by omega)
     have c7b1 : decide ((a0_2.size : Int) ≤ (a1.size : Int)) = true := decide_eq_true c7
     clear c7
     by_cases c8 : a0_3.size + (a1.extract a0_2.size a1.size).size ≤ 9223372036854775807
     ·rw [if_pos c8] at H; have c8b0 := eq_true c8; have c8b5 := c8
      try simp at c8b5
      try have c8b4 := eq_false (Nat.not_lt.2 c8b5)
      try have c8b3 : (9223372036854775807 < a0_3.size + (a1.size - a0_2.size)) = False := by
            have h_ := c8
            simp only [ByteArray.size_append, ByteArray.size_extract] at h_
            exact eq_false (by omega)
      have c8b1 : decide (a0_3.size + (a1.extract a0_2.size a1.size).size ≤ 9223372036854775807) = true := decide_eq_true c8
      try have c8b2 : (9223372036854775807 < a0_3.size + (a1.extract a0_2.size a1.size).size) = False := eq_false (Nat.not_lt.2 c8)
      replace H := Option.bind_eq_some_iff.mp H; obtain ⟨t217, A90, H⟩ := H; replace H : (some (a0_3 ++ (a1.extract a0_2.size a1.size), t217)) = some (r1, r2) := H; have A9 := Aside0.mk A90; clear A90
      simp only [Option.some.injEq, Prod.mk.injEq] at H
      obtain ⟨rfl, rfl⟩ := H; go_enter Try.func198, Try.ntmps198
      go_wp2_with (first | ((with_reducible refine gate_dst (N := 2) rfl ?_); refine bx 2 (cs := #[.string a0_0, .bool true, .string a0_2, .string a0_3, .string a0_4]) (t := 117) ?_; intro gb215 hg w10 hbox hb; have BK215 := am (hbox); have GW215 := am ((b13_ : w.heap.size ≤ gb215)); have GE215 := am ((b13_ : w.heap.size ≤ gb215)); replace HB := am (below_step bel hb); clear hb hbox hg; have hcz11_0 := bc BK215.out 0; have hcz11_1 := bc BK215.out 1; have hcz11_2 := bc BK215.out 2; have hcz11_3 := bc BK215.out 3; have hcz11_4 := bc BK215.out 4; have hfz11_0 := bf BK215.out 0; have hfz11_1 := bf BK215.out 1; have hfz11_2 := bf BK215.out 2; have hfz11_3 := bf BK215.out 3; have hfz11_4 := bf BK215.out 4) | (go_at_call 170; (with_reducible refine (spec_l2Begins.calls a1 a0_4 true _ A4.out).mono ?_); rintro e w' ⟨rfl, ⟨nd, rfl⟩⟩; (try first | exact ⟨rfl, _, World.drewN_drewN _ _ _⟩ | exact ⟨rfl, _, Eq.trans (World.drewN_drewN _ _ _) (congrArg (World.drewN _) (Nat.add_assoc _ _ _))⟩)) | (go_at_call 57; (with_reducible refine (spec_l1Word.calls k (a0_3 ++ (a1.extract a0_2.size a1.size)) t217 _ A9.out).mono ?_); rintro e w' ⟨rfl, ⟨nd, rfl⟩⟩; (try first | exact ⟨rfl, _, World.drewN_drewN _ _ _⟩ | exact ⟨rfl, _, Eq.trans (World.drewN_drewN _ _ _) (congrArg (World.drewN _) (Nat.add_assoc _ _ _))⟩)))
      repeat (go_quiet (first | ((with_reducible refine gate_dst (N := 2) rfl ?_); refine bx 2 (cs := #[.string a0_0, .bool true, .string a0_2, .string a0_3, .string a0_4]) (t := 117) ?_; intro gb215 hg w10 hbox hb; have BK215 := am (hbox); have GW215 := am ((b13_ : w.heap.size ≤ gb215)); have GE215 := am ((b13_ : w.heap.size ≤ gb215)); replace HB := am (below_step bel hb); clear hb hbox hg; have hcz11_0 := bc BK215.out 0; have hcz11_1 := bc BK215.out 1; have hcz11_2 := bc BK215.out 2; have hcz11_3 := bc BK215.out 3; have hcz11_4 := bc BK215.out 4; have hfz11_0 := bf BK215.out 0; have hfz11_1 := bf BK215.out 1; have hfz11_2 := bf BK215.out 2; have hfz11_3 := bf BK215.out 3; have hfz11_4 := bf BK215.out 4) | (go_at_call 170; (with_reducible refine (spec_l2Begins.calls a1 a0_4 true _ A4.out).mono ?_); rintro e w' ⟨rfl, ⟨nd, rfl⟩⟩; (try first | exact ⟨rfl, _, World.drewN_drewN _ _ _⟩ | exact ⟨rfl, _, Eq.trans (World.drewN_drewN _ _ _) (congrArg (World.drewN _) (Nat.add_assoc _ _ _))⟩)) | (go_at_call 57; (with_reducible refine (spec_l1Word.calls k (a0_3 ++ (a1.extract a0_2.size a1.size)) t217 _ A9.out).mono ?_); rintro e w' ⟨rfl, ⟨nd, rfl⟩⟩; (try first | exact ⟨rfl, _, World.drewN_drewN _ _ _⟩ | exact ⟨rfl, _, Eq.trans (World.drewN_drewN _ _ _) (congrArg (World.drewN _) (Nat.add_assoc _ _ _))⟩))); try go_wp2_with (first | ((with_reducible refine gate_dst (N := 2) rfl ?_); refine bx 2 (cs := #[.string a0_0, .bool true, .string a0_2, .string a0_3, .string a0_4]) (t := 117) ?_; intro gb215 hg w10 hbox hb; have BK215 := am (hbox); have GW215 := am ((b13_ : w.heap.size ≤ gb215)); have GE215 := am ((b13_ : w.heap.size ≤ gb215)); replace HB := am (below_step bel hb); clear hb hbox hg; have hcz11_0 := bc BK215.out 0; have hcz11_1 := bc BK215.out 1; have hcz11_2 := bc BK215.out 2; have hcz11_3 := bc BK215.out 3; have hcz11_4 := bc BK215.out 4; have hfz11_0 := bf BK215.out 0; have hfz11_1 := bf BK215.out 1; have hfz11_2 := bf BK215.out 2; have hfz11_3 := bf BK215.out 3; have hfz11_4 := bf BK215.out 4) | (go_at_call 170; (with_reducible refine (spec_l2Begins.calls a1 a0_4 true _ A4.out).mono ?_); rintro e w' ⟨rfl, ⟨nd, rfl⟩⟩; (try first | exact ⟨rfl, _, World.drewN_drewN _ _ _⟩ | exact ⟨rfl, _, Eq.trans (World.drewN_drewN _ _ _) (congrArg (World.drewN _) (Nat.add_assoc _ _ _))⟩)) | (go_at_call 57; (with_reducible refine (spec_l1Word.calls k (a0_3 ++ (a1.extract a0_2.size a1.size)) t217 _ A9.out).mono ?_); rintro e w' ⟨rfl, ⟨nd, rfl⟩⟩; (try first | exact ⟨rfl, _, World.drewN_drewN _ _ _⟩ | exact ⟨rfl, _, Eq.trans (World.drewN_drewN _ _ _) (congrArg (World.drewN _) (Nat.add_assoc _ _ _))⟩))))
      go_ret2
      exact ⟨eq_, bel1 GE215.out⟩
     ·rw [if_neg c8] at H
      exact absurd H (by simp)
    ·rw [if_neg c7] at H
     exact absurd H (by simp)
   ·rw [if_neg c6] at H
    exact absurd H (by simp)
  ·replace c5 := Bool.eq_false_iff.mpr c5; subst c5
   have H1 : (some ((⟨#[]⟩ : ByteArray), false)) = some (r1, r2) := b6_
   replace H := H1; clear H1
   simp only [Option.some.injEq, Prod.mk.injEq] at H
   obtain ⟨rfl, rfl⟩ := H; go_enter Try.func198, Try.ntmps198
   go_wp2_with (first | ((with_reducible refine gate_dst (N := 2) rfl ?_); refine bx 2 (cs := #[.string a0_0, .bool true, .string a0_2, .string a0_3, .string a0_4]) (t := 117) ?_; intro gb215 hg w12 hbox hb; have BK215 := am (hbox); have GW215 := am ((b13_ : w.heap.size ≤ gb215)); have GE215 := am ((b13_ : w.heap.size ≤ gb215)); replace HB := am (below_step bel hb); clear hb hbox hg; have hcz13_0 := bc BK215.out 0; have hcz13_1 := bc BK215.out 1; have hcz13_2 := bc BK215.out 2; have hcz13_3 := bc BK215.out 3; have hcz13_4 := bc BK215.out 4; have hfz13_0 := bf BK215.out 0; have hfz13_1 := bf BK215.out 1; have hfz13_2 := bf BK215.out 2; have hfz13_3 := bf BK215.out 3; have hfz13_4 := bf BK215.out 4) | (go_at_call 170; (with_reducible refine (spec_l2Begins.calls a1 a0_4 false _ A4.out).mono ?_); rintro e w' ⟨rfl, ⟨nd, rfl⟩⟩; (try first | exact ⟨rfl, _, World.drewN_drewN _ _ _⟩ | exact ⟨rfl, _, Eq.trans (World.drewN_drewN _ _ _) (congrArg (World.drewN _) (Nat.add_assoc _ _ _))⟩)))
   repeat (go_quiet (first | ((with_reducible refine gate_dst (N := 2) rfl ?_); refine bx 2 (cs := #[.string a0_0, .bool true, .string a0_2, .string a0_3, .string a0_4]) (t := 117) ?_; intro gb215 hg w12 hbox hb; have BK215 := am (hbox); have GW215 := am ((b13_ : w.heap.size ≤ gb215)); have GE215 := am ((b13_ : w.heap.size ≤ gb215)); replace HB := am (below_step bel hb); clear hb hbox hg; have hcz13_0 := bc BK215.out 0; have hcz13_1 := bc BK215.out 1; have hcz13_2 := bc BK215.out 2; have hcz13_3 := bc BK215.out 3; have hcz13_4 := bc BK215.out 4; have hfz13_0 := bf BK215.out 0; have hfz13_1 := bf BK215.out 1; have hfz13_2 := bf BK215.out 2; have hfz13_3 := bf BK215.out 3; have hfz13_4 := bf BK215.out 4) | (go_at_call 170; (with_reducible refine (spec_l2Begins.calls a1 a0_4 false _ A4.out).mono ?_); rintro e w' ⟨rfl, ⟨nd, rfl⟩⟩; (try first | exact ⟨rfl, _, World.drewN_drewN _ _ _⟩ | exact ⟨rfl, _, Eq.trans (World.drewN_drewN _ _ _) (congrArg (World.drewN _) (Nat.add_assoc _ _ _))⟩))); try go_wp2_with (first | ((with_reducible refine gate_dst (N := 2) rfl ?_); refine bx 2 (cs := #[.string a0_0, .bool true, .string a0_2, .string a0_3, .string a0_4]) (t := 117) ?_; intro gb215 hg w12 hbox hb; have BK215 := am (hbox); have GW215 := am ((b13_ : w.heap.size ≤ gb215)); have GE215 := am ((b13_ : w.heap.size ≤ gb215)); replace HB := am (below_step bel hb); clear hb hbox hg; have hcz13_0 := bc BK215.out 0; have hcz13_1 := bc BK215.out 1; have hcz13_2 := bc BK215.out 2; have hcz13_3 := bc BK215.out 3; have hcz13_4 := bc BK215.out 4; have hfz13_0 := bf BK215.out 0; have hfz13_1 := bf BK215.out 1; have hfz13_2 := bf BK215.out 2; have hfz13_3 := bf BK215.out 3; have hfz13_4 := bf BK215.out 4) | (go_at_call 170; (with_reducible refine (spec_l2Begins.calls a1 a0_4 false _ A4.out).mono ?_); rintro e w' ⟨rfl, ⟨nd, rfl⟩⟩; (try first | exact ⟨rfl, _, World.drewN_drewN _ _ _⟩ | exact ⟨rfl, _, Eq.trans (World.drewN_drewN _ _ _) (congrArg (World.drewN _) (Nat.add_assoc _ _ _))⟩))))
   go_ret2
   exact ⟨eq_, bel1 GE215.out⟩
 ·replace c3 := Bool.eq_false_iff.mpr c3; subst c3
  have H1 : ((spec_l2Ends.f a1 a0_4).bind fun t218 => (if t218 = true then (if 0 ≤ (wrap64 ((a1.size : Int) - (a0_2.size : Int))) then (if (wrap64 ((a1.size : Int) - (a0_2.size : Int))) ≤ (a1.size : Int) then (if (a1.extract 0 ((wrap64 ((a1.size : Int) - (a0_2.size : Int))) : Int).toNat).size + a0_3.size ≤ 9223372036854775807 then ((spec_l1Word.f k ((a1.extract 0 ((wrap64 ((a1.size : Int) - (a0_2.size : Int))) : Int).toNat) ++ a0_3)).bind fun t219 => (some ((a1.extract 0 ((wrap64 ((a1.size : Int) - (a0_2.size : Int))) : Int).toNat) ++ a0_3, t219))) else (none)) else (none)) else (none)) else (some ((⟨#[]⟩ : ByteArray), false)))) = some (r1, r2) := b6_
  replace H := H1; clear H1
  replace H := Option.bind_eq_some_iff.mp H; obtain ⟨t218, A140, H⟩ := H; replace H : (if t218 = true then (if 0 ≤ (wrap64 ((a1.size : Int) - (a0_2.size : Int))) then (if (wrap64 ((a1.size : Int) - (a0_2.size : Int))) ≤ (a1.size : Int) then (if (a1.extract 0 ((wrap64 ((a1.size : Int) - (a0_2.size : Int))) : Int).toNat).size + a0_3.size ≤ 9223372036854775807 then ((spec_l1Word.f k ((a1.extract 0 ((wrap64 ((a1.size : Int) - (a0_2.size : Int))) : Int).toNat) ++ a0_3)).bind fun t219 => (some ((a1.extract 0 ((wrap64 ((a1.size : Int) - (a0_2.size : Int))) : Int).toNat) ++ a0_3, t219))) else (none)) else (none)) else (none)) else (some ((⟨#[]⟩ : ByteArray), false))) = some (r1, r2) := H; have A14 := Aside0.mk A140; clear A140
  by_cases c15 : t218 = true
  ·subst c15
   have H1 : (if 0 ≤ (wrap64 ((a1.size : Int) - (a0_2.size : Int))) then (if (wrap64 ((a1.size : Int) - (a0_2.size : Int))) ≤ (a1.size : Int) then (if (a1.extract 0 ((wrap64 ((a1.size : Int) - (a0_2.size : Int))) : Int).toNat).size + a0_3.size ≤ 9223372036854775807 then ((spec_l1Word.f k ((a1.extract 0 ((wrap64 ((a1.size : Int) - (a0_2.size : Int))) : Int).toNat) ++ a0_3)).bind fun t219 => (some ((a1.extract 0 ((wrap64 ((a1.size : Int) - (a0_2.size : Int))) : Int).toNat) ++ a0_3, t219))) else (none)) else (none)) else (none)) = some (r1, r2) := b20_
   replace H := H1; clear H1
   obtain ⟨ji16, hji16⟩ : ∃ j_ : Int, (wrap64 ((a1.size : Int) - (a0_2.size : Int))) = j_ := ⟨_, rfl⟩
   replace H : (if 0 ≤ (ji16) then (if (ji16) ≤ (a1.size : Int) then (if (a1.extract 0 ((ji16) : Int).toNat).size + a0_3.size ≤ 9223372036854775807 then ((spec_l1Word.f k ((a1.extract 0 ((ji16) : Int).toNat) ++ a0_3)).bind fun t219 => (some ((a1.extract 0 ((ji16) : Int).toNat) ++ a0_3, t219))) else (none)) else (none)) else (none)) = some (r1, r2) := by first | (rw [hji16] at H; exact H) | (simp only [hji16] at H ⊢; exact H)
   (try rw [hji16] at A14)
   have hji16w : (IntKind.i64.wrap ((a1.size : Int) - (a0_2.size : Int))) = ji16 := (i64_w _).trans hji16
   by_cases c17 : 0 ≤ (ji16)
   ·rw [if_pos c17] at H; have c17b0 := eq_true c17
    have c17b1 : decide (0 ≤ (ji16)) = true := decide_eq_true c17
    clear c17
    by_cases c18 : (ji16) ≤ (a1.size : Int)
    ·rw [if_pos c18] at H; have c18b0 := eq_true c18
     have c18b1 : decide ((ji16) ≤ (a1.size : Int)) = true := decide_eq_true c18
     clear c18
     by_cases c19 : (a1.extract 0 ((ji16) : Int).toNat).size + a0_3.size ≤ 9223372036854775807
     ·rw [if_pos c19] at H; have c19b0 := eq_true c19; have c19b5 := c19
      try simp at c19b5
      try have c19b4 := eq_false (Nat.not_lt.2 c19b5)
      try have c19b3 : (9223372036854775807 < ((ji16) : Int).toNat + a0_3.size) = False := by
            have h_ := c19
            simp only [ByteArray.size_append, ByteArray.size_extract] at h_
            have g0_ : ((ji16)) ≤ (a1.size : Int) := of_decide_eq_true ad
            exact eq_false (by omega)
      have c19b1 : decide ((a1.extract 0 ((ji16) : Int).toNat).size + a0_3.size ≤ 9223372036854775807) = true := decide_eq_true c19
      try have c19b2 : (9223372036854775807 < (a1.extract 0 ((ji16) : Int).toNat).size + a0_3.size) = False := eq_false (Nat.not_lt.2 c19)
      replace H := Option.bind_eq_some_iff.mp H; obtain ⟨t219, A200, H⟩ := H; replace H : (some ((a1.extract 0 ((ji16) : Int).toNat) ++ a0_3, t219)) = some (r1, r2) := H; have A20 := Aside0.mk A200; clear A200
      simp only [Option.some.injEq, Prod.mk.injEq] at H
      obtain ⟨rfl, rfl⟩ := H; go_enter Try.func198, Try.ntmps198
      go_wp2_with (first | ((with_reducible refine gate_dst (N := 2) rfl ?_); refine bx 2 (cs := #[.string a0_0, .bool false, .string a0_2, .string a0_3, .string a0_4]) (t := 117) ?_; intro gb215 hg w21 hbox hb; have BK215 := am (hbox); have GW215 := am ((b13_ : w.heap.size ≤ gb215)); have GE215 := am ((b13_ : w.heap.size ≤ gb215)); replace HB := am (below_step bel hb); clear hb hbox hg; have hcz22_0 := bc BK215.out 0; have hcz22_1 := bc BK215.out 1; have hcz22_2 := bc BK215.out 2; have hcz22_3 := bc BK215.out 3; have hcz22_4 := bc BK215.out 4; have hfz22_0 := bf BK215.out 0; have hfz22_1 := bf BK215.out 1; have hfz22_2 := bf BK215.out 2; have hfz22_3 := bf BK215.out 3; have hfz22_4 := bf BK215.out 4) | (go_at_call 171; (with_reducible refine (spec_l2Ends.calls a1 a0_4 true _ A14.out).mono ?_); rintro e w' ⟨rfl, ⟨nd, rfl⟩⟩; (try first | exact ⟨rfl, _, World.drewN_drewN _ _ _⟩ | exact ⟨rfl, _, Eq.trans (World.drewN_drewN _ _ _) (congrArg (World.drewN _) (Nat.add_assoc _ _ _))⟩)) | (go_at_call 57; (with_reducible refine (spec_l1Word.calls k ((a1.extract 0 ((ji16) : Int).toNat) ++ a0_3) t219 _ A20.out).mono ?_); rintro e w' ⟨rfl, ⟨nd, rfl⟩⟩; (try first | exact ⟨rfl, _, World.drewN_drewN _ _ _⟩ | exact ⟨rfl, _, Eq.trans (World.drewN_drewN _ _ _) (congrArg (World.drewN _) (Nat.add_assoc _ _ _))⟩)))
      repeat (go_quiet (first | ((with_reducible refine gate_dst (N := 2) rfl ?_); refine bx 2 (cs := #[.string a0_0, .bool false, .string a0_2, .string a0_3, .string a0_4]) (t := 117) ?_; intro gb215 hg w21 hbox hb; have BK215 := am (hbox); have GW215 := am ((b13_ : w.heap.size ≤ gb215)); have GE215 := am ((b13_ : w.heap.size ≤ gb215)); replace HB := am (below_step bel hb); clear hb hbox hg; have hcz22_0 := bc BK215.out 0; have hcz22_1 := bc BK215.out 1; have hcz22_2 := bc BK215.out 2; have hcz22_3 := bc BK215.out 3; have hcz22_4 := bc BK215.out 4; have hfz22_0 := bf BK215.out 0; have hfz22_1 := bf BK215.out 1; have hfz22_2 := bf BK215.out 2; have hfz22_3 := bf BK215.out 3; have hfz22_4 := bf BK215.out 4) | (go_at_call 171; (with_reducible refine (spec_l2Ends.calls a1 a0_4 true _ A14.out).mono ?_); rintro e w' ⟨rfl, ⟨nd, rfl⟩⟩; (try first | exact ⟨rfl, _, World.drewN_drewN _ _ _⟩ | exact ⟨rfl, _, Eq.trans (World.drewN_drewN _ _ _) (congrArg (World.drewN _) (Nat.add_assoc _ _ _))⟩)) | (go_at_call 57; (with_reducible refine (spec_l1Word.calls k ((a1.extract 0 ((ji16) : Int).toNat) ++ a0_3) t219 _ A20.out).mono ?_); rintro e w' ⟨rfl, ⟨nd, rfl⟩⟩; (try first | exact ⟨rfl, _, World.drewN_drewN _ _ _⟩ | exact ⟨rfl, _, Eq.trans (World.drewN_drewN _ _ _) (congrArg (World.drewN _) (Nat.add_assoc _ _ _))⟩))); try go_wp2_with (first | ((with_reducible refine gate_dst (N := 2) rfl ?_); refine bx 2 (cs := #[.string a0_0, .bool false, .string a0_2, .string a0_3, .string a0_4]) (t := 117) ?_; intro gb215 hg w21 hbox hb; have BK215 := am (hbox); have GW215 := am ((b13_ : w.heap.size ≤ gb215)); have GE215 := am ((b13_ : w.heap.size ≤ gb215)); replace HB := am (below_step bel hb); clear hb hbox hg; have hcz22_0 := bc BK215.out 0; have hcz22_1 := bc BK215.out 1; have hcz22_2 := bc BK215.out 2; have hcz22_3 := bc BK215.out 3; have hcz22_4 := bc BK215.out 4; have hfz22_0 := bf BK215.out 0; have hfz22_1 := bf BK215.out 1; have hfz22_2 := bf BK215.out 2; have hfz22_3 := bf BK215.out 3; have hfz22_4 := bf BK215.out 4) | (go_at_call 171; (with_reducible refine (spec_l2Ends.calls a1 a0_4 true _ A14.out).mono ?_); rintro e w' ⟨rfl, ⟨nd, rfl⟩⟩; (try first | exact ⟨rfl, _, World.drewN_drewN _ _ _⟩ | exact ⟨rfl, _, Eq.trans (World.drewN_drewN _ _ _) (congrArg (World.drewN _) (Nat.add_assoc _ _ _))⟩)) | (go_at_call 57; (with_reducible refine (spec_l1Word.calls k ((a1.extract 0 ((ji16) : Int).toNat) ++ a0_3) t219 _ A20.out).mono ?_); rintro e w' ⟨rfl, ⟨nd, rfl⟩⟩; (try first | exact ⟨rfl, _, World.drewN_drewN _ _ _⟩ | exact ⟨rfl, _, Eq.trans (World.drewN_drewN _ _ _) (congrArg (World.drewN _) (Nat.add_assoc _ _ _))⟩))))
      go_ret2
      exact ⟨by first | rfl | (simp [errW_none, errW_some] <;> rfl) | (simp only [← hji16]; first | rfl | (simp [errW_none, errW_some] <;> rfl)) | (simp [*, errW_none, errW_some] <;> rfl), bel1 GE215.out⟩
     ·rw [if_neg c19] at H
      exact absurd H (by simp)
    ·rw [if_neg c18] at H
     exact absurd H (by simp)
   ·rw [if_neg c17] at H
    exact absurd H (by simp)
  ·replace c15 := Bool.eq_false_iff.mpr c15; subst c15
   have H1 : (some ((⟨#[]⟩ : ByteArray), false)) = some (r1, r2) := b6_
   replace H := H1; clear H1
   simp only [Option.some.injEq, Prod.mk.injEq] at H
   obtain ⟨rfl, rfl⟩ := H; go_enter Try.func198, Try.ntmps198
   go_wp2_with (first | ((with_reducible refine gate_dst (N := 2) rfl ?_); refine bx 2 (cs := #[.string a0_0, .bool false, .string a0_2, .string a0_3, .string a0_4]) (t := 117) ?_; intro gb215 hg w23 hbox hb; have BK215 := am (hbox); have GW215 := am ((b13_ : w.heap.size ≤ gb215)); have GE215 := am ((b13_ : w.heap.size ≤ gb215)); replace HB := am (below_step bel hb); clear hb hbox hg; have hcz24_0 := bc BK215.out 0; have hcz24_1 := bc BK215.out 1; have hcz24_2 := bc BK215.out 2; have hcz24_3 := bc BK215.out 3; have hcz24_4 := bc BK215.out 4; have hfz24_0 := bf BK215.out 0; have hfz24_1 := bf BK215.out 1; have hfz24_2 := bf BK215.out 2; have hfz24_3 := bf BK215.out 3; have hfz24_4 := bf BK215.out 4) | (go_at_call 171; (with_reducible refine (spec_l2Ends.calls a1 a0_4 false _ A14.out).mono ?_); rintro e w' ⟨rfl, ⟨nd, rfl⟩⟩; (try first | exact ⟨rfl, _, World.drewN_drewN _ _ _⟩ | exact ⟨rfl, _, Eq.trans (World.drewN_drewN _ _ _) (congrArg (World.drewN _) (Nat.add_assoc _ _ _))⟩)))
   repeat (go_quiet (first | ((with_reducible refine gate_dst (N := 2) rfl ?_); refine bx 2 (cs := #[.string a0_0, .bool false, .string a0_2, .string a0_3, .string a0_4]) (t := 117) ?_; intro gb215 hg w23 hbox hb; have BK215 := am (hbox); have GW215 := am ((b13_ : w.heap.size ≤ gb215)); have GE215 := am ((b13_ : w.heap.size ≤ gb215)); replace HB := am (below_step bel hb); clear hb hbox hg; have hcz24_0 := bc BK215.out 0; have hcz24_1 := bc BK215.out 1; have hcz24_2 := bc BK215.out 2; have hcz24_3 := bc BK215.out 3; have hcz24_4 := bc BK215.out 4; have hfz24_0 := bf BK215.out 0; have hfz24_1 := bf BK215.out 1; have hfz24_2 := bf BK215.out 2; have hfz24_3 := bf BK215.out 3; have hfz24_4 := bf BK215.out 4) | (go_at_call 171; (with_reducible refine (spec_l2Ends.calls a1 a0_4 false _ A14.out).mono ?_); rintro e w' ⟨rfl, ⟨nd, rfl⟩⟩; (try first | exact ⟨rfl, _, World.drewN_drewN _ _ _⟩ | exact ⟨rfl, _, Eq.trans (World.drewN_drewN _ _ _) (congrArg (World.drewN _) (Nat.add_assoc _ _ _))⟩))); try go_wp2_with (first | ((with_reducible refine gate_dst (N := 2) rfl ?_); refine bx 2 (cs := #[.string a0_0, .bool false, .string a0_2, .string a0_3, .string a0_4]) (t := 117) ?_; intro gb215 hg w23 hbox hb; have BK215 := am (hbox); have GW215 := am ((b13_ : w.heap.size ≤ gb215)); have GE215 := am ((b13_ : w.heap.size ≤ gb215)); replace HB := am (below_step bel hb); clear hb hbox hg; have hcz24_0 := bc BK215.out 0; have hcz24_1 := bc BK215.out 1; have hcz24_2 := bc BK215.out 2; have hcz24_3 := bc BK215.out 3; have hcz24_4 := bc BK215.out 4; have hfz24_0 := bf BK215.out 0; have hfz24_1 := bf BK215.out 1; have hfz24_2 := bf BK215.out 2; have hfz24_3 := bf BK215.out 3; have hfz24_4 := bf BK215.out 4) | (go_at_call 171; (with_reducible refine (spec_l2Ends.calls a1 a0_4 false _ A14.out).mono ?_); rintro e w' ⟨rfl, ⟨nd, rfl⟩⟩; (try first | exact ⟨rfl, _, World.drewN_drewN _ _ _⟩ | exact ⟨rfl, _, Eq.trans (World.drewN_drewN _ _ _) (congrArg (World.drewN _) (Nat.add_assoc _ _ _))⟩))))
   go_ret2
   exact ⟨eq_, bel1 GE215.out⟩

end Go.Proofs.Ytfpmfaelodfecaa.QFnMachineWord
