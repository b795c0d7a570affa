import Derived.Test.YtfpmfaelodfecaaQFnExactGuessesx0
import Derived.Test.YtfpmfaelodfecaaQFnExactGuessesx5
import Derived.Test.YtfpmfaelodfecaaVMSh2
namespace Go.Proofs.Ytfpmfaelodfecaa.QFnExactGuesses
open Go.RowKit Go.Proofs.YtfpmfaelodfecaaW.PrintWords Go.Proofs.YtfpmfaelodfecaaW.PrintLast Go.Proofs.YtfpmfaelodfecaaW.PrintMore Go.Proofs.Ytfpmfaelodfecaa.Sh
attribute [local go_sem] max2_int min2_int max_two min_two max_three min_three max_four min_four   -- for this text's walks alone
set_option linter.unusedVariables false
set_option linter.unusedSimpArgs false
-- shrunk

/-! ### impl_Within: function 106 -/
def impl_Within.f (k : Nat) (a0 : ByteArray) (a1 : ByteArray) (a2 : Int) : Option (Bool) := (impl_Far.f k a0 a1).bind fun t240 => (if t240 ≥ 0 then (some (decide (t240 ≤ a2))) else (some false))
set_option maxHeartbeats 8000000 in
set_option maxRecDepth 100000 in
theorem impl_Within.calls (k : Nat) (a0 : ByteArray) (a1 : ByteArray) (a2 : Int) (r : Bool) (w : World) (h : impl_Within.f k a0 a1 a2 = some r) :
  Calls Try.prog 106 #[.string a0, .string a1, .int .i64 a2] w fun e w' => e = .returned (.bool r) ∧ Below w.heap.size w w' := by
 have HB := am (Below.refl w.heap.size w)
 have H : ((impl_Far.f k a0 a1).bind fun t240 => (if t240 ≥ 0 then (some (decide (t240 ≤ a2))) else (some false))) = some r := h
 clear h; replace H := Option.bind_eq_some_iff.mp H; obtain ⟨t240, A40, H⟩ := H; replace H : (if t240 ≥ 0 then (some (decide (t240 ≤ a2))) else (some false)) = some r := H; have A4 := Aside0.mk A40; clear A40
 by_cases c5 : t240 ≥ 0
 ·rw [if_pos c5] at H; have c5b0 := decide_eq_true c5; clear c5; obtain rfl := Option.some.inj H; go_enter Try.func106, Try.ntmps106
  go_wp2_with (first | ((with_reducible refine gate_callee (f := 23) rfl ?_); refine goesL_ (some 10) rfl rfl Try.func23 (by kernel_rfl) rfl #[.string a0, .string a1] rfl mq ?_; (with_reducible refine (impl_Far.calls k a0 a1 t240 _ A4.out).mono ?_); rintro e w6 ⟨rfl, hb⟩; refine ⟨_, rfl, ?_⟩; replace HB := am (below_step bel hb); (try clear hb); (try clear hb2); (try clear hk); (try clear hi)))
  go_ret
  exact ⟨eq_, bel⟩
 ·rw [if_neg c5] at H; have c5b0 := decide_eq_false c5; clear c5; obtain rfl := Option.some.inj H; go_enter Try.func106, Try.ntmps106
  go_wp2_with (first | ((with_reducible refine gate_callee (f := 23) rfl ?_); refine goesL_ (some 10) rfl rfl Try.func23 (by kernel_rfl) rfl #[.string a0, .string a1] rfl mq ?_; (with_reducible refine (impl_Far.calls k a0 a1 t240 _ A4.out).mono ?_); rintro e w7 ⟨rfl, hb⟩; refine ⟨_, rfl, ?_⟩; replace HB := am (below_step bel hb); (try clear hb); (try clear hb2); (try clear hk); (try clear hi)))
  go_ret
  exact ⟨eq_, bel⟩

/-! ### cmp_Or_int: function 135 -/
def cmp_Or_int.l0 : Nat → Int → List Int → Int → Int → Option (Int)
 | 0, _, _, _, _ => none
 | k + 1, x3, x6, x7, x8 => if x8 < x7 then (if 0 ≤ x8 then (if x8 < (x6.length : Int) then (if (rd x6 x8) = x3 then (cmp_Or_int.l0 k x3 x6 x7 (wrap64 (x8 + 1))) else (some (rd x6 x8))) else (none)) else (none)) else (some x3)
def cmp_Or_int.f (k : Nat) (l0 : List Int) : Option (Int) := cmp_Or_int.l0 k 0 l0 (l0.length : Int) 0
set_option maxHeartbeats 8000000 in
set_option maxRecDepth 100000 in
theorem cmp_Or_int.calls (k : Nat) (A0 : Option Addr) (c0 : Nat) (l0 : List Int) (r : Int) (w : World) (hr0 : Kd.C (Kd.int .i64) w A0 l0.length l0) (hc0 : l0.length ≤ c0) (h : cmp_Or_int.f k l0 = some r) :
  Calls Try.prog 135 #[.slice A0 l0.length c0] w fun e w' => e = .returned (.int .i64 r) ∧ Drawn0 w w' := by
 have HR0 := am hr0; have HC0 := am hc0; clear hr0 hc0
 have H : (cmp_Or_int.l0 k 0 l0 (l0.length : Int) 0) = some r := h
 clear h
 have H' := am H
 clear H; go_enter Try.func135, Try.ntmps135; go_wp2
 go_loopg [8] k (fun kq v8 w' => ∃ (x8_1 : Int), v8 = .int .i64 x8_1 ∧ Aside0 (cmp_Or_int.l0 kq 0 l0 (l0.length : Int) x8_1 = some r) ∧ Aside0 (kq ≤ k) ∧ Drawn0 w w')
 case atStart => exact ⟨(0), sq, H', ⟨Nat.le_refl _⟩, dr⟩
 case round =>
  clear H'; (try clear c1); obtain ⟨x8_1, rfl, HA, HK1, ⟨m1, rfl⟩⟩ := hrel
  cases gk with
  | zero => exact absurd HA.out (by simp [cmp_Or_int.l0])
  | succ k1 =>
   have H := HA.out; clear HA
   simp only [cmp_Or_int.l0] at H
   by_cases c2 : x8_1 < (l0.length : Int)
   ·rw [if_pos c2] at H; have c2b0 := decide_eq_true c2; clear c2
    by_cases c3 : 0 ≤ x8_1
    ·rw [if_pos c3] at H; have c3b0 := decide_eq_true c3; clear c3
     by_cases c4 : x8_1 < (l0.length : Int)
     ·rw [if_pos c4] at H; have c4b0 := decide_eq_true c4; clear c4
      by_cases c5 : (rd l0 x8_1) = 0
      ·rw [if_pos c5] at H
       have c5b0 : ((rd l0 x8_1) == 0) = true := beq_iff_eq.mpr c5
       have c5b1 : ((rd l0 x8_1) != 0) = false := bne_eq_false_iff_eq.mpr c5
       clear c5
       have H' := am H
       clear H
       have p241 : 0 ≤ (x8_1 : Int) := of_decide_eq_true ad
       have q241 : x8_1 < (l0.length : Int) := of_decide_eq_true ad
       obtain ⟨ad241, e241, hx241_0⟩ := Kd.at_int HR0.out x8_1 p241 q241
       cases e241
       replace p241 := eq_true p241; replace q241 := eq_true q241; go_wp2
       go_roundg k1
       case measure => have := HK1.out; omega
       case rel => exact ⟨(wrap64 (x8_1 + 1)), sq, H', ⟨b22_⟩, dr⟩
      ·rw [if_neg c5] at H
       have c5b0 : ((rd l0 x8_1) == 0) = false := beq_eq_false_iff_ne.mpr c5
       have c5b1 : ((rd l0 x8_1) != 0) = true := bne_iff_ne.mpr c5
       obtain rfl := Option.some.inj H
       have p241 : 0 ≤ (x8_1 : Int) := of_decide_eq_true ad
       have q241 : x8_1 < (l0.length : Int) := of_decide_eq_true ad
       obtain ⟨ad241, e241, hx241_0⟩ := Kd.at_int HR0.out x8_1 p241 q241
       cases e241
       replace p241 := eq_true p241; replace q241 := eq_true q241; go_wp2; go_ret
       exact ⟨sq, dr⟩
     ·rw [if_neg c4] at H
      exact absurd H (by simp)
    ·rw [if_neg c3] at H
     exact absurd H (by simp)
   ·rw [if_neg c2] at H; have c2b0 := decide_eq_false c2; clear c2; obtain rfl := Option.some.inj H; go_wp2; go_ret
    exact ⟨sq, dr⟩

/-! ### cmp_isNaN_int: function 161 -/
def cmp_isNaN_int.f (a0 : Int) : Option (Bool) := some (a0 != a0)
set_option maxHeartbeats 8000000 in
set_option maxRecDepth 100000 in
theorem cmp_isNaN_int.calls (a0 : Int) (r : Bool) (w : World) (h : cmp_isNaN_int.f a0 = some r) :
  Calls Try.prog 161 #[.int .i64 a0] w fun e w' => e = .returned (.bool r) ∧ Drawn0 w w' := by
 have H : (some (a0 != a0)) = some r := h
 clear h; obtain rfl := Option.some.inj H; go_enter Try.func161, Try.ntmps161; go_wp2; go_ret
 exact ⟨sq, dr⟩

/-! ### cmp_Compare_int: function 136 -/
def cmp_Compare_int.f (a0 : Int) (a1 : Int) : Option (Int) := (cmp_isNaN_int.f a0).bind fun t242 => ((cmp_isNaN_int.f a1).bind fun t243 => (if t242 = true then (if t243 = true then (some 0) else (some (-1))) else (if t243 = true then (some 1) else (if a0 < a1 then (some (-1)) else (if a0 > a1 then (some 1) else (some 0))))))
set_option maxHeartbeats 8000000 in
set_option maxRecDepth 100000 in
theorem cmp_Compare_int.calls (a0 : Int) (a1 : Int) (r : Int) (w : World) (h : cmp_Compare_int.f a0 a1 = some r) :
  Calls Try.prog 136 #[.int .i64 a0, .int .i64 a1] w fun e w' => e = .returned (.int .i64 r) ∧ Drawn0 w w' := by
 have H : ((cmp_isNaN_int.f a0).bind fun t242 => ((cmp_isNaN_int.f a1).bind fun t243 => (if t242 = true then (if t243 = true then (some 0) else (some (-1))) else (if t243 = true then (some 1) else (if a0 < a1 then (some (-1)) else (if a0 > a1 then (some 1) else (some 0))))))) = some r := h
 clear h; replace H := Option.bind_eq_some_iff.mp H; obtain ⟨t242, A30, H⟩ := H; replace H : ((cmp_isNaN_int.f a1).bind fun t243 => (if t242 = true then (if t243 = true then (some 0) else (some (-1))) else (if t243 = true then (some 1) else (if a0 < a1 then (some (-1)) else (if a0 > a1 then (some 1) else (some 0)))))) = some r := H; have A3 := Aside0.mk A30; clear A30; replace H := Option.bind_eq_some_iff.mp H; obtain ⟨t243, A40, H⟩ := H; replace H : (if t242 = true then (if t243 = true then (some 0) else (some (-1))) else (if t243 = true then (some 1) else (if a0 < a1 then (some (-1)) else (if a0 > a1 then (some 1) else (some 0))))) = some r := H; have A4 := Aside0.mk A40; clear A40
 by_cases c5 : t242 = true
 ·subst c5
  have H1 : (if t243 = true then (some 0) else (some (-1))) = some r := b16_
  replace H := H1; clear H1
  by_cases c6 : t243 = true
  ·subst c6
   have H1 : (some 0) = some r := b16_
   replace H := H1; clear H1
   obtain rfl := Option.some.inj H; go_enter Try.func136, Try.ntmps136
   go_wp2_with (first | ((with_reducible refine gate_callee (f := 161) rfl ?_); refine goesL_ (some 8) rfl rfl Try.func161 (by kernel_rfl) rfl #[.int .i64 a0] rfl mq ?_; (with_reducible refine (cmp_isNaN_int.calls a0 true _ A3.out).mono ?_); rintro e w' ⟨rfl, ⟨nd, rfl⟩⟩; refine ⟨_, rfl, ?_⟩) | ((with_reducible refine gate_callee (f := 161) rfl ?_); refine goesL_ (some 10) rfl rfl Try.func161 (by kernel_rfl) rfl #[.int .i64 a1] rfl mq ?_; (with_reducible refine (cmp_isNaN_int.calls a1 true _ A4.out).mono ?_); rintro e w' ⟨rfl, ⟨nd, rfl⟩⟩; refine ⟨_, rfl, ?_⟩))
   go_ret
   exact ⟨sq, dr⟩
  ·replace c6 := Bool.eq_false_iff.mpr c6; subst c6
   have H1 : (some (-1)) = some r := b5_
   replace H := H1; clear H1
   obtain rfl := Option.some.inj H; go_enter Try.func136, Try.ntmps136
   go_wp2_with (first | ((with_reducible refine gate_callee (f := 161) rfl ?_); refine goesL_ (some 8) rfl rfl Try.func161 (by kernel_rfl) rfl #[.int .i64 a0] rfl mq ?_; (with_reducible refine (cmp_isNaN_int.calls a0 true _ A3.out).mono ?_); rintro e w' ⟨rfl, ⟨nd, rfl⟩⟩; refine ⟨_, rfl, ?_⟩) | ((with_reducible refine gate_callee (f := 161) rfl ?_); refine goesL_ (some 10) rfl rfl Try.func161 (by kernel_rfl) rfl #[.int .i64 a1] rfl mq ?_; (with_reducible refine (cmp_isNaN_int.calls a1 false _ A4.out).mono ?_); rintro e w' ⟨rfl, ⟨nd, rfl⟩⟩; refine ⟨_, rfl, ?_⟩))
   go_ret
   exact ⟨sq, dr⟩
 ·replace c5 := Bool.eq_false_iff.mpr c5; subst c5
  have H1 : (if t243 = true then (some 1) else (if a0 < a1 then (some (-1)) else (if a0 > a1 then (some 1) else (some 0)))) = some r := b5_
  replace H := H1; clear H1
  by_cases c7 : t243 = true
  ·subst c7
   have H1 : (some 1) = some r := b16_
   replace H := H1; clear H1
   obtain rfl := Option.some.inj H; go_enter Try.func136, Try.ntmps136
   go_wp2_with (first | ((with_reducible refine gate_callee (f := 161) rfl ?_); refine goesL_ (some 8) rfl rfl Try.func161 (by kernel_rfl) rfl #[.int .i64 a0] rfl mq ?_; (with_reducible refine (cmp_isNaN_int.calls a0 false _ A3.out).mono ?_); rintro e w' ⟨rfl, ⟨nd, rfl⟩⟩; refine ⟨_, rfl, ?_⟩) | ((with_reducible refine gate_callee (f := 161) rfl ?_); refine goesL_ (some 10) rfl rfl Try.func161 (by kernel_rfl) rfl #[.int .i64 a1] rfl mq ?_; (with_reducible refine (cmp_isNaN_int.calls a1 true _ A4.out).mono ?_); rintro e w' ⟨rfl, ⟨nd, rfl⟩⟩; refine ⟨_, rfl, ?_⟩))
   go_ret
   exact ⟨sq, dr⟩
  ·replace c7 := Bool.eq_false_iff.mpr c7; subst c7
   have H1 : (if a0 < a1 then (some (-1)) else (if a0 > a1 then (some 1) else (some 0))) = some r := b5_
   replace H := H1; clear H1
   by_cases c8 : a0 < a1
   ·rw [if_pos c8] at H; have c8b0 := decide_eq_true c8; clear c8; obtain rfl := Option.some.inj H; go_enter Try.func136, Try.ntmps136
    go_wp2_with (first | ((with_reducible refine gate_callee (f := 161) rfl ?_); refine goesL_ (some 8) rfl rfl Try.func161 (by kernel_rfl) rfl #[.int .i64 a0] rfl mq ?_; (with_reducible refine (cmp_isNaN_int.calls a0 false _ A3.out).mono ?_); rintro e w' ⟨rfl, ⟨nd, rfl⟩⟩; refine ⟨_, rfl, ?_⟩) | ((with_reducible refine gate_callee (f := 161) rfl ?_); refine goesL_ (some 10) rfl rfl Try.func161 (by kernel_rfl) rfl #[.int .i64 a1] rfl mq ?_; (with_reducible refine (cmp_isNaN_int.calls a1 false _ A4.out).mono ?_); rintro e w' ⟨rfl, ⟨nd, rfl⟩⟩; refine ⟨_, rfl, ?_⟩))
    go_ret
    exact ⟨sq, dr⟩
   ·rw [if_neg c8] at H; have c8b0 := decide_eq_false c8; clear c8
    by_cases c9 : a0 > a1
    ·rw [if_pos c9] at H; have c9b0 := decide_eq_true c9; clear c9; obtain rfl := Option.some.inj H; go_enter Try.func136, Try.ntmps136
     go_wp2_with (first | ((with_reducible refine gate_callee (f := 161) rfl ?_); refine goesL_ (some 8) rfl rfl Try.func161 (by kernel_rfl) rfl #[.int .i64 a0] rfl mq ?_; (with_reducible refine (cmp_isNaN_int.calls a0 false _ A3.out).mono ?_); rintro e w' ⟨rfl, ⟨nd, rfl⟩⟩; refine ⟨_, rfl, ?_⟩) | ((with_reducible refine gate_callee (f := 161) rfl ?_); refine goesL_ (some 10) rfl rfl Try.func161 (by kernel_rfl) rfl #[.int .i64 a1] rfl mq ?_; (with_reducible refine (cmp_isNaN_int.calls a1 false _ A4.out).mono ?_); rintro e w' ⟨rfl, ⟨nd, rfl⟩⟩; refine ⟨_, rfl, ?_⟩))
     go_ret
     exact ⟨sq, dr⟩
    ·rw [if_neg c9] at H; have c9b0 := decide_eq_false c9; clear c9; obtain rfl := Option.some.inj H; go_enter Try.func136, Try.ntmps136
     go_wp2_with (first | ((with_reducible refine gate_callee (f := 161) rfl ?_); refine goesL_ (some 8) rfl rfl Try.func161 (by kernel_rfl) rfl #[.int .i64 a0] rfl mq ?_; (with_reducible refine (cmp_isNaN_int.calls a0 false _ A3.out).mono ?_); rintro e w' ⟨rfl, ⟨nd, rfl⟩⟩; refine ⟨_, rfl, ?_⟩) | ((with_reducible refine gate_callee (f := 161) rfl ?_); refine goesL_ (some 10) rfl rfl Try.func161 (by kernel_rfl) rfl #[.int .i64 a1] rfl mq ?_; (with_reducible refine (cmp_isNaN_int.calls a1 false _ A4.out).mono ?_); rintro e w' ⟨rfl, ⟨nd, rfl⟩⟩; refine ⟨_, rfl, ?_⟩))
     go_ret
     exact ⟨sq, dr⟩

/-! ### cmp_isNaN_string: function 162 -/
def cmp_isNaN_string.f (a0 : ByteArray) : Option (Bool) := some (a0.toList != a0.toList)
set_option maxHeartbeats 8000000 in
set_option maxRecDepth 100000 in
theorem cmp_isNaN_string.calls (a0 : ByteArray) (r : Bool) (w : World) (h : cmp_isNaN_string.f a0 = some r) :
  Calls Try.prog 162 #[.string a0] w fun e w' => e = .returned (.bool r) ∧ Drawn0 w w' := by
 have H : (some (a0.toList != a0.toList)) = some r := h
 clear h; obtain rfl := Option.some.inj H; go_enter Try.func162, Try.ntmps162; go_wp2; go_ret
 exact ⟨sq, dr⟩

/-! ### cmp_Compare_string: function 137 -/
def cmp_Compare_string.f (a0 : ByteArray) (a1 : ByteArray) : Option (Int) := (cmp_isNaN_string.f a0).bind fun t244 => ((cmp_isNaN_string.f a1).bind fun t245 => (if t244 = true then (if t245 = true then (some 0) else (some (-1))) else (if t245 = true then (some 1) else (if (Op.bytesLess a0.toList a1.toList) = true then (some (-1)) else (if (Op.bytesLess a1.toList a0.toList) = true then (some 1) else (some 0))))))
theorem cmp_Compare_string.ne : ∀ {a b : List UInt8}, Op.bytesLess b a = true → (a == b) = false
 | [], [], h => by simp [Op.bytesLess] at h
 | [], _ :: _, h => by rfl
 | _ :: _, [], h => by rfl
 | x :: a, y :: b, h => by
  rw [List.cons_beq_cons]
  by_cases e : x = y
  ·subst e
   have h' : Op.bytesLess b a = true := by simpa [Op.bytesLess] using h
   rw [cmp_Compare_string.ne h', Bool.and_false]
  ·simp [e]
theorem cmp_Compare_string.eq : ∀ {a b : List UInt8}, Op.bytesLess a b = false → Op.bytesLess b a = false → (a == b) = true
 | [], [], _, _ => rfl
 | [], _ :: _, h, _ => by simp [Op.bytesLess] at h
 | _ :: _, [], _, h => by simp [Op.bytesLess] at h
 | x :: a, y :: b, h, h2 => by
  have e : x = y := by
   by_cases c : x < y
   ·simp [Op.bytesLess, c] at h
   ·by_cases c2 : y < x
    ·simp [Op.bytesLess, c2] at h2
    ·exact UInt8.le_antisymm (UInt8.not_lt.1 c2) (UInt8.not_lt.1 c)
  subst e
  rw [List.cons_beq_cons, cmp_Compare_string.eq (a := a) (b := b) (by simpa [Op.bytesLess] using h) (by simpa [Op.bytesLess] using h2)]
  simp
set_option maxHeartbeats 8000000 in
set_option maxRecDepth 100000 in
theorem cmp_Compare_string.calls (a0 : ByteArray) (a1 : ByteArray) (r : Int) (w : World) (h : cmp_Compare_string.f a0 a1 = some r) :
  Calls Try.prog 137 #[.string a0, .string a1] w fun e w' => e = .returned (.int .i64 r) ∧ Drawn0 w w' := by
 have H : ((cmp_isNaN_string.f a0).bind fun t244 => ((cmp_isNaN_string.f a1).bind fun t245 => (if t244 = true then (if t245 = true then (some 0) else (some (-1))) else (if t245 = true then (some 1) else (if (Op.bytesLess a0.toList a1.toList) = true then (some (-1)) else (if (Op.bytesLess a1.toList a0.toList) = true then (some 1) else (some 0))))))) = some r := h
 clear h; replace H := Option.bind_eq_some_iff.mp H; obtain ⟨t244, A30, H⟩ := H; replace H : ((cmp_isNaN_string.f a1).bind fun t245 => (if t244 = true then (if t245 = true then (some 0) else (some (-1))) else (if t245 = true then (some 1) else (if (Op.bytesLess a0.toList a1.toList) = true then (some (-1)) else (if (Op.bytesLess a1.toList a0.toList) = true then (some 1) else (some 0)))))) = some r := H; have A3 := Aside0.mk A30; clear A30; replace H := Option.bind_eq_some_iff.mp H; obtain ⟨t245, A40, H⟩ := H; replace H : (if t244 = true then (if t245 = true then (some 0) else (some (-1))) else (if t245 = true then (some 1) else (if (Op.bytesLess a0.toList a1.toList) = true then (some (-1)) else (if (Op.bytesLess a1.toList a0.toList) = true then (some 1) else (some 0))))) = some r := H; have A4 := Aside0.mk A40; clear A40
 by_cases c5 : t244 = true
 ·subst c5
  have H1 : (if t245 = true then (some 0) else (some (-1))) = some r := b16_
  replace H := H1; clear H1
  by_cases c6 : t245 = true
  ·subst c6
   have H1 : (some 0) = some r := b16_
   replace H := H1; clear H1
   obtain rfl := Option.some.inj H; go_enter Try.func137, Try.ntmps137
   go_wp2_with (first | ((with_reducible refine gate_callee (f := 162) rfl ?_); refine goesL_ (some 8) rfl rfl Try.func162 (by kernel_rfl) rfl #[.string a0] rfl mq ?_; (with_reducible refine (cmp_isNaN_string.calls a0 true _ A3.out).mono ?_); rintro e w' ⟨rfl, ⟨nd, rfl⟩⟩; refine ⟨_, rfl, ?_⟩) | ((with_reducible refine gate_callee (f := 162) rfl ?_); refine goesL_ (some 10) rfl rfl Try.func162 (by kernel_rfl) rfl #[.string a1] rfl mq ?_; (with_reducible refine (cmp_isNaN_string.calls a1 true _ A4.out).mono ?_); rintro e w' ⟨rfl, ⟨nd, rfl⟩⟩; refine ⟨_, rfl, ?_⟩))
   go_ret
   exact ⟨sq, dr⟩
  ·replace c6 := Bool.eq_false_iff.mpr c6; subst c6
   have H1 : (some (-1)) = some r := b5_
   replace H := H1; clear H1
   obtain rfl := Option.some.inj H; go_enter Try.func137, Try.ntmps137
   go_wp2_with (first | ((with_reducible refine gate_callee (f := 162) rfl ?_); refine goesL_ (some 8) rfl rfl Try.func162 (by kernel_rfl) rfl #[.string a0] rfl mq ?_; (with_reducible refine (cmp_isNaN_string.calls a0 true _ A3.out).mono ?_); rintro e w' ⟨rfl, ⟨nd, rfl⟩⟩; refine ⟨_, rfl, ?_⟩) | ((with_reducible refine gate_callee (f := 162) rfl ?_); refine goesL_ (some 10) rfl rfl Try.func162 (by kernel_rfl) rfl #[.string a1] rfl mq ?_; (with_reducible refine (cmp_isNaN_string.calls a1 false _ A4.out).mono ?_); rintro e w' ⟨rfl, ⟨nd, rfl⟩⟩; refine ⟨_, rfl, ?_⟩))
   go_ret
   exact ⟨sq, dr⟩
 ·replace c5 := Bool.eq_false_iff.mpr c5; subst c5
  have H1 : (if t245 = true then (some 1) else (if (Op.bytesLess a0.toList a1.toList) = true then (some (-1)) else (if (Op.bytesLess a1.toList a0.toList) = true then (some 1) else (some 0)))) = some r := b5_
  replace H := H1; clear H1
  by_cases c7 : t245 = true
  ·subst c7
   have H1 : (some 1) = some r := b16_
   replace H := H1; clear H1
   obtain rfl := Option.some.inj H; go_enter Try.func137, Try.ntmps137
   go_wp2_with (first | ((with_reducible refine gate_callee (f := 162) rfl ?_); refine goesL_ (some 8) rfl rfl Try.func162 (by kernel_rfl) rfl #[.string a0] rfl mq ?_; (with_reducible refine (cmp_isNaN_string.calls a0 false _ A3.out).mono ?_); rintro e w' ⟨rfl, ⟨nd, rfl⟩⟩; refine ⟨_, rfl, ?_⟩) | ((with_reducible refine gate_callee (f := 162) rfl ?_); refine goesL_ (some 10) rfl rfl Try.func162 (by kernel_rfl) rfl #[.string a1] rfl mq ?_; (with_reducible refine (cmp_isNaN_string.calls a1 true _ A4.out).mono ?_); rintro e w' ⟨rfl, ⟨nd, rfl⟩⟩; refine ⟨_, rfl, ?_⟩))
   go_ret
   exact ⟨sq, dr⟩
  ·replace c7 := Bool.eq_false_iff.mpr c7; subst c7
   have H1 : (if (Op.bytesLess a0.toList a1.toList) = true then (some (-1)) else (if (Op.bytesLess a1.toList a0.toList) = true then (some 1) else (some 0))) = some r := b5_
   replace H := H1; clear H1
   by_cases c8 : (Op.bytesLess a0.toList a1.toList) = true
   ·rw [if_pos c8] at H
    have c8b0 : (Op.bytesLess a0.toList a1.toList) = true := c8
    clear c8; obtain rfl := Option.some.inj H; go_enter Try.func137, Try.ntmps137
    go_wp2_with (first | ((with_reducible refine gate_callee (f := 162) rfl ?_); refine goesL_ (some 8) rfl rfl Try.func162 (by kernel_rfl) rfl #[.string a0] rfl mq ?_; (with_reducible refine (cmp_isNaN_string.calls a0 false _ A3.out).mono ?_); rintro e w' ⟨rfl, ⟨nd, rfl⟩⟩; refine ⟨_, rfl, ?_⟩) | ((with_reducible refine gate_callee (f := 162) rfl ?_); refine goesL_ (some 10) rfl rfl Try.func162 (by kernel_rfl) rfl #[.string a1] rfl mq ?_; (with_reducible refine (cmp_isNaN_string.calls a1 false _ A4.out).mono ?_); rintro e w' ⟨rfl, ⟨nd, rfl⟩⟩; refine ⟨_, rfl, ?_⟩))
    go_ret
    exact ⟨sq, dr⟩
   ·rw [if_neg c8] at H
    have c8b0 : (Op.bytesLess a0.toList a1.toList) = false := by simpa using c8
    clear c8
    by_cases c9 : (Op.bytesLess a1.toList a0.toList) = true
    ·rw [if_pos c9] at H
     have c9b0 : (Op.bytesLess a1.toList a0.toList) = true := c9
     clear c9
     have c9e0 : (a0.toList == a1.toList) = false := cmp_Compare_string.ne c9b0
     obtain rfl := Option.some.inj H; go_enter Try.func137, Try.ntmps137
     go_wp2_with (first | ((with_reducible refine gate_callee (f := 162) rfl ?_); refine goesL_ (some 8) rfl rfl Try.func162 (by kernel_rfl) rfl #[.string a0] rfl mq ?_; (with_reducible refine (cmp_isNaN_string.calls a0 false _ A3.out).mono ?_); rintro e w' ⟨rfl, ⟨nd, rfl⟩⟩; refine ⟨_, rfl, ?_⟩) | ((with_reducible refine gate_callee (f := 162) rfl ?_); refine goesL_ (some 10) rfl rfl Try.func162 (by kernel_rfl) rfl #[.string a1] rfl mq ?_; (with_reducible refine (cmp_isNaN_string.calls a1 false _ A4.out).mono ?_); rintro e w' ⟨rfl, ⟨nd, rfl⟩⟩; refine ⟨_, rfl, ?_⟩))
     go_ret
     exact ⟨sq, dr⟩
    ·rw [if_neg c9] at H
     have c9b0 : (Op.bytesLess a1.toList a0.toList) = false := by simpa using c9
     clear c9
     have c9e0 : (a0.toList == a1.toList) = true := cmp_Compare_string.eq c8b0 c9b0
     obtain rfl := Option.some.inj H; go_enter Try.func137, Try.ntmps137
     go_wp2_with (first | ((with_reducible refine gate_callee (f := 162) rfl ?_); refine goesL_ (some 8) rfl rfl Try.func162 (by kernel_rfl) rfl #[.string a0] rfl mq ?_; (with_reducible refine (cmp_isNaN_string.calls a0 false _ A3.out).mono ?_); rintro e w' ⟨rfl, ⟨nd, rfl⟩⟩; refine ⟨_, rfl, ?_⟩) | ((with_reducible refine gate_callee (f := 162) rfl ?_); refine goesL_ (some 10) rfl rfl Try.func162 (by kernel_rfl) rfl #[.string a1] rfl mq ?_; (with_reducible refine (cmp_isNaN_string.calls a1 false _ A4.out).mono ?_); rintro e w' ⟨rfl, ⟨nd, rfl⟩⟩; refine ⟨_, rfl, ?_⟩))
     go_ret
     exact ⟨sq, dr⟩

/-! ### impl_guessOrder: function 108 -/
/-- What is behind: draws and new blocks alone. -/
def impl_guessOrder.Gr (w W : World) : Prop := ∃ q os', W = Go.Sort.grow (w.drewN q) os'
theorem impl_guessOrder.Gr.refl (w : World) : impl_guessOrder.Gr w w := ⟨0, #[], by rw [Go.Sort.grow_empty]; rfl⟩
theorem impl_guessOrder.Gr.drewN {w W : World} (h : impl_guessOrder.Gr w W) (n : Nat) : impl_guessOrder.Gr w (W.drewN n) := by
 obtain ⟨q, os, rfl⟩ := h
 exact ⟨q + n, os, by rw [← World.drewN_drewN]; rfl⟩
theorem impl_guessOrder.Gr.drew {w W : World} (h : impl_guessOrder.Gr w W) : impl_guessOrder.Gr w W.drew := h.drewN 1
theorem impl_guessOrder.Gr.alloc {w W : World} (h : impl_guessOrder.Gr w W) (o : Obj) : impl_guessOrder.Gr w (W.alloc o) := by
 obtain ⟨q, os, rfl⟩ := h
 exact ⟨q, os ++ #[o], by rw [Go.Sort.alloc_eq_grow, Go.Sort.grow_grow]⟩
section
variable {P : Program} {ops : Array Oper} {rest : List Oper} {o : Oper} {a : Act} {Q : Exit → Act → World → Prop} {Kc : Act → World → Prop}
theorem impl_guessOrder.box {w W : World} (HG : impl_guessOrder.Gr w W) (hgd : o.guard = none) {N : Tmp} (_hd : o.dst = some N) {cs : Array Value} {t : TypeId}
  (hrun : (execOp a.eval o).run P W = .ok (.value (.pointer (some ⟨W.heap.size, 0, none⟩))) (W.alloc (.cells cs t (0, 0))))
  (h : ∀ g, g = W.heap.size → ∀ w1, w1.heap[g]? = some (.cells cs t (0, 0)) → Below W.heap.size W w1 → impl_guessOrder.Gr w w1 → wpList P ops Q rest (a.put o.dst (.pointer (some ⟨g, 0, none⟩))) w1) : wpList P ops Q (o :: rest) a W :=
 Kd.event_run hgd hrun (h _ rfl _ (blk_new W _) (below_alloc (Below.refl _ _) _) (HG.alloc _))
theorem impl_guessOrder.lit {α : Type} {w W : World} (HG : impl_guessOrder.Gr w W) (d : Kd α) {w0 : World} (base e : Nat) (hw : Region.wanted o (yielded ops a.tmps) = true) {N : Tmp} (hd : o.dst = some N) {xs : List α} {inner : List Value} {ok okp : Nat → Prop}
  (hrun : (execOp a.eval o).run P W = .ok (.value (.slice (some ⟨W.heap.size, 0, none⟩) xs.length xs.length)) (W.alloc (.cells inner.toArray e)))
  (hrep : Reps (d.M W base okp) d.sz xs inner) (hok : ∀ k, okp k → ok k) (hfresh : ok W.heap.size) (HB : Below base w0 W) (hbase : base ≤ W.heap.size) (hm : xs.length ≤ 9223372036854775807)
  (h : ∀ v1 w1, d.R e w1 base ok v1 xs → Below base w0 w1 → W.grownBy w1 none → (∃ b, v1.ownBlock = some b ∧ W.heap.size ≤ b) → impl_guessOrder.Gr w w1 → Kc (a.put o.dst v1) w1) : if Region.wanted o (yielded ops a.tmps) = true then Oper.wp P o a W Kc Q else Kc (a.put o.dst undef) W := by
 have h0 := Kd.R_lit_step (P := P) (Q := Q) (Kc := fun a' w' => ∃ v1, a' = a.put o.dst v1 ∧ d.R e w' base ok v1 xs ∧ Below base w0 w' ∧ W.grownBy w' none ∧ (∃ b, v1.ownBlock = some b ∧ W.heap.size ≤ b)) d base e hw hd hrun hrep hok hfresh HB hbase hm (fun v1 w1 z1 z2 z3 z4 => ⟨v1, rfl, z1, z2, z3, z4⟩)
 rw [if_pos hw] at h0 ⊢
 unfold Oper.wp at h0 ⊢
 rw [hrun] at h0 ⊢
 obtain ⟨v1, e1, z1, z2, z3, z4⟩ := h0
 show Kc _ _
 rw [e1]
 exact h v1 _ z1 z2 z3 z4 (HG.alloc _)
end
def impl_guessOrder.f (k : Nat) (a0_0 : ByteArray) (a0_1 : Int) (a1_0 : ByteArray) (a1_1 : Int) : Option (Int) := (cmp_Compare_int.f a0_1 a1_1).bind fun t248 => ((cmp_Compare_string.f a0_0 a1_0).bind fun t249 => ((cmp_Or_int.f k (([t248, t249] : List Int))).bind fun t253 => (some t253)))
def impl_guessOrder.T1 : Bool × List (List Nat × List Nat) := (true, [([], []), ([0], [0]), ([], []), ([2], [2]), ([1, 3], [1, 3]), ([], []), ([5], [5]), ([], []), ([7], [7]), ([6, 8, 4], [6, 8]), ([4, 9], [4, 9]), ([10, 9], [10]), ([11, 11, 0, 1, 2, 3, 4, 5, 6, 7, 8, 9, 10, 11], [11])])
def impl_guessOrder.B1 : List Nat := [0, 1, 0, 4, 15, 0, 32, 0, 128, 511, 1023, 2047, 4095]
theorem impl_guessOrder.tab1 : rtab .any (opsOf Try.f108 1) = impl_guessOrder.T1 := by kernel_rfl
theorem impl_guessOrder.bits1 : waitsOk impl_guessOrder.T1.2 impl_guessOrder.B1 = true := by kernel_rfl
set_option maxHeartbeats 8000000 in
set_option maxRecDepth 100000 in
theorem impl_guessOrder.calls (k : Nat) (a0_0 : ByteArray) (a0_1 : Int) (a1_0 : ByteArray) (a1_1 : Int) (r : Int) (w : World) (h : impl_guessOrder.f k a0_0 a0_1 a1_0 a1_1 = some r) :
  Calls Try.prog 108 #[.agg #[.string a0_0, .int .i64 a0_1], .agg #[.string a1_0, .int .i64 a1_1]] w fun e w' => e = .returned (.int .i64 r) ∧ ∃ q os', w' = Go.Sort.grow (w.drewN q) os' := by
 have hu36 := Try.underlying36; have HB := am (Below.refl w.heap.size w); have HG := am (impl_guessOrder.Gr.refl w)
 have H : ((cmp_Compare_int.f a0_1 a1_1).bind fun t248 => ((cmp_Compare_string.f a0_0 a1_0).bind fun t249 => ((cmp_Or_int.f k (([t248, t249] : List Int))).bind fun t253 => (some t253)))) = some r := h
 clear h; replace H := Option.bind_eq_some_iff.mp H; obtain ⟨t248, A30, H⟩ := H; replace H : ((cmp_Compare_string.f a0_0 a1_0).bind fun t249 => ((cmp_Or_int.f k (([t248, t249] : List Int))).bind fun t253 => (some t253))) = some r := H; have A3 := Aside0.mk A30; clear A30; replace H := Option.bind_eq_some_iff.mp H; obtain ⟨t249, A40, H⟩ := H; replace H : ((cmp_Or_int.f k (([t248, t249] : List Int))).bind fun t253 => (some t253)) = some r := H; have A4 := Aside0.mk A40; clear A40; obtain ⟨y250, hy250⟩ : ∃ y_ : List Int, y_ = (([t248, t249] : List Int)) := ⟨_, rfl⟩
 replace H : ((cmp_Or_int.f k y250).bind fun t253 => (some t253)) = some r := b21_
 have Ny250 := am hy250; clear hy250; replace H := Option.bind_eq_some_iff.mp H; obtain ⟨t253, A50, H⟩ := H; replace H : (some t253) = some r := H; have A5 := Aside0.mk A50; clear A50; obtain rfl := Option.some.inj H; go_enter Try.func108, Try.ntmps108
 try go_wp2_with (first | ((with_reducible refine gate_dst (N := 2) rfl ?_); refine impl_guessOrder.box HG.out ?hg (N := 2) ?hd (cs := #[.string a0_0, .int .i64 a0_1]) (t := 36) ?hr ?_; (case hd => rfl); (case hg => rfl); (case hr => first | (go_simp; done) | (go_simp; rfl)); intro gb246 hg w6 hbox hb hgr; replace HG := am hgr; clear hgr; have BK246 := am (hbox); have GW246 := am ((b30_ : w.heap.size ≤ gb246)); have GE246 := am ((b30_ : w.heap.size ≤ gb246)); replace HB := am (below_step bel hb); clear hb hbox hg) | ((with_reducible refine gate_dst (N := 3) rfl ?_); refine impl_guessOrder.box HG.out ?hg (N := 3) ?hd (cs := #[.string a1_0, .int .i64 a1_1]) (t := 36) ?hr ?_; (case hd => rfl); (case hg => rfl); (case hr => first | (go_simp; done) | (go_simp; rfl)); intro gb247 hg w7 hbox hb hgr; replace HG := am hgr; clear hgr; have BK247 := am (hbox); have GW247 := am ((by rw [hg]; exact (below_size (bel1 GE246.out)) : w.heap.size ≤ gb247)); have GE247 := am ((by rw [hg]; exact (below_size (bel1 GE246.out)) : w.heap.size ≤ gb247)); replace HB := am (below_step (bel1 GE246.out) hb); have NB246_247 := am ((by rw [hg]; exact Nat.ne_of_lt (blk_lt (g := gb246) (o := .cells #[.string a0_0, .int .i64 a0_1] 36 (0, 0)) (bq BK246.out)) : gb246 ≠ gb247)); have NB247_246 := am ((by rw [hg]; exact Nat.ne_of_gt (blk_lt (g := gb246) (o := .cells #[.string a0_0, .int .i64 a0_1] 36 (0, 0)) (bq BK246.out)) : gb247 ≠ gb246)); replace BK246 := am (blk_below (g := gb246) (o := .cells #[.string a0_0, .int .i64 a0_1] 36 (0, 0)) (bq BK246.out) hb); clear hb hbox hg))
 have n0_ := am (blk_drew BK246.out); have n1_ := am (blk_drew BK247.out); have n2_ := am (below_drew1 HB.out); replace HG := am HG.out.drew; clear BK246; clear BK247; clear HB; have BK246 := n0_; have BK247 := n1_; have HB := n2_; clear n0_ n1_ n2_
 refine st (n := 13) (S := fun w' => w'.cell? ⟨gb246, 0, none⟩ = some (.string a0_0) ∧ w'.cell? ⟨gb246, 1, none⟩ = some (.int .i64 a0_1) ∧ w'.cell? ⟨gb247, 0, none⟩ = some (.string a1_0) ∧ w'.cell? ⟨gb247, 1, none⟩ = some (.int .i64 a1_1)) (ds := []) ⟨(blk_cell BK246.out 0).trans rfl, (blk_cell BK246.out 1).trans rfl, (blk_cell BK247.out 0).trans rfl, (blk_cell BK247.out 1).trans rfl⟩ (fun hHeld => ?_); refine with_tabW impl_guessOrder.tab1 impl_guessOrder.bits1 (fun HT_ HW_ => ?_)
 generalize w7.drew = w8 at BK246 BK247 HB HG hHeld ⊢
 refine pu 0 5 ?_
 refine pu 2 7 ?_
 refine pu 5 10 ?_
 refine pu 7 12 ?_
 refine tk4 1 6 hHeld ?_
 refine tk4 3 8 hHeld ?_
 refine tk4 6 11 hHeld ?_
 refine tk4 8 13 hHeld ?_
 refine on1 4 9 (fun K hK => ?_)
 refine goes_ Try.func136 (by kernel_rfl) rfl #[.int .i64 a0_1, .int .i64 a1_1] (by rfl) rfl rfl mq ?_
 with_reducible refine (cmp_Compare_int.calls a0_1 a1_1 t248 _ A3.out).mono ?_
 rintro e w' ⟨rfl, ⟨nd, rfl⟩⟩
 refine ⟨_, rfl, ?_⟩
 replace HG := am (HG.out.drewN nd)
 refine hK.out _ _ ⟨(blk_cell BK246.out 0).trans rfl, (blk_cell BK246.out 1).trans rfl, (blk_cell BK247.out 0).trans rfl, (blk_cell BK247.out 1).trans rfl⟩ (fun hHeld => ?_)
 clear hK K
 refine norm_ (a' := ?_) ?_ ?_
 rotate_left
 ·show Act.put _ (some 9) _ = _
  simp only [Act.put, List.setIfInBounds_toArray, List.set_cons_zero, List.set_cons_succ, i64_w, i32_w]
  rfl
 refine on1 9 14 (fun K hK => ?_)
 refine goes_ Try.func137 (by kernel_rfl) rfl #[.string a0_0, .string a1_0] (by rfl) rfl rfl mq ?_
 with_reducible refine (cmp_Compare_string.calls a0_0 a1_0 t249 _ A4.out).mono ?_
 rintro e w' ⟨rfl, ⟨nd, rfl⟩⟩
 refine ⟨_, rfl, ?_⟩
 replace HG := am (HG.out.drewN nd)
 refine hK.out _ _ ⟨(blk_cell BK246.out 0).trans rfl, (blk_cell BK246.out 1).trans rfl, (blk_cell BK247.out 0).trans rfl, (blk_cell BK247.out 1).trans rfl⟩ (fun hHeld => ?_)
 clear hK K
 refine norm_ (a' := ?_) ?_ ?_
 rotate_left
 ·show Act.put _ (some 14) _ = _
  simp only [Act.put, List.setIfInBounds_toArray, List.set_cons_zero, List.set_cons_succ, i64_w, i32_w]
  rfl
 refine on1 10 15 (fun K hK => ?_)
 refine impl_guessOrder.lit HG.out (Kd.int .i64) _ 3 ?hg (N := 15) ?hd (xs := ([t248, t249] : List Int)) (inner := [.int .i64 t248, .int .i64 t249]) (ok := fun _ => True) (okp := fun _ => True) ?hr ?hp (fun _ hk => hk) trivial (Below.refl _ _) (Nat.le_refl _) (by simp) ?_; (case hd => rfl); (case hg => rfl); (case hr => first | (go_simp; done) | (go_simp; rfl)); (case hp => exact (Reps.one (show Kd.M (Kd.int .i64) _ _ _ t248 [.int .i64 t248] from rfl) (Reps.one (show Kd.M (Kd.int .i64) _ _ _ t249 [.int .i64 t249] from rfl) (Reps.none _ _))))
 intro v251 w9 ho10 hb hg_ hnew_ hgr
 replace HG := am hgr; clear hgr
 clear hg_ hnew_
 (first | rw [← Ny250.out] at ho10 | (simp only [Int.reduceToNat] at ho10; rw [← Ny250.out] at ho10) | (simp only [Int.toNat_natCast] at ho10; rw [← Ny250.out] at ho10))
 have HO252 := am (Kd.R_lower ho10 (below_size (bel2 GE246.out GE247.out))); replace BK246 := am (blk_below (g := gb246) (o := .cells #[.string a0_0, .int .i64 a0_1] 36 (0, 0)) (bq BK246.out) hb); replace BK247 := am (blk_below (g := gb247) (o := .cells #[.string a1_0, .int .i64 a1_1] 36 (0, 0)) (bq BK247.out) hb); replace HB := am (below_step (bel2 GE246.out GE247.out) hb); clear hb ho10; obtain ⟨Ao11, co11, eo11⟩ := Kd.R_slice HO252.out
 (first | subst eo11 | (injection eo11 with f1_ f2_ f3_; have f4_ := f1_.symm; have f5_ := f3_.symm; clear f1_ f2_ f3_; subst f4_; subst f5_))
 refine hK.out _ _ ⟨(blk_cell BK246.out 0).trans rfl, (blk_cell BK246.out 1).trans rfl, (blk_cell BK247.out 0).trans rfl, (blk_cell BK247.out 1).trans rfl⟩ (fun hHeld => ?_)
 clear hK K
 refine norm_ (a' := ?_) ?_ ?_
 rotate_left
 ·show Act.put _ (some 15) _ = _
  simp only [Act.put, List.setIfInBounds_toArray, List.set_cons_zero, List.set_cons_succ, i64_w, i32_w]
  rfl
 refine on1 11 16 (fun K hK => ?_)
 refine goes_ Try.func135 (by kernel_rfl) rfl #[.slice Ao11 y250.length co11] (by rfl) rfl rfl mq ?_
 with_reducible refine (cmp_Or_int.calls k _ _ y250 t253 _ ?side1 ?side2 A5.out).mono ?_
 (case side1 => exact cq (Kd.R_reads' HO252.out).2.2); (case side2 => exact (Kd.R_reads' HO252.out).2.1)
 rintro e w' ⟨rfl, ⟨nd, rfl⟩⟩
 refine ⟨_, rfl, ?_⟩
 replace HG := am (HG.out.drewN nd)
 refine hK.out _ _ ⟨(blk_cell BK246.out 0).trans rfl, (blk_cell BK246.out 1).trans rfl, (blk_cell BK247.out 0).trans rfl, (blk_cell BK247.out 1).trans rfl⟩ (fun hHeld => ?_)
 clear hK K
 refine norm_ (a' := ?_) ?_ ?_
 rotate_left
 ·show Act.put _ (some 16) _ = _
  simp only [Act.put, List.setIfInBounds_toArray, List.set_cons_zero, List.set_cons_succ, i64_w, i32_w]
  rfl
 refine pu 12 4 ?_
 refine done_ (done_of HT_.out (by kernel_rfl)) ?_
 try go_wp2
 go_ret
 exact ⟨eq_, by first | exact HG.out | (simpa using HG.out)⟩

/-! ### impl_Guess: function 107 -/

instance impl_Guess.inh : Inhabited S36 := ⟨z36⟩
/-- How two guesses are ordered: by distance, then by word. -/
def impl_Guess.cf (x y : S36) : Int := if x.f1 < y.f1 then -1 else if x.f1 > y.f1 then 1 else if Op.bytesLess x.f0.toList y.f0.toList = true then -1 else if Op.bytesLess y.f0.toList x.f0.toList = true then 1 else 0
def impl_Guess.le (x y : S36) : Bool := !(ltOf impl_Guess.cf y x)
theorem impl_Guess.lt_iff (x y : S36) : ltOf impl_Guess.cf x y = true ↔ x.f1 < y.f1 ∨ (x.f1 = y.f1 ∧ x.f0.toList < y.f0.toList) := by
 unfold ltOf impl_Guess.cf
 simp only [bytesLess_eq, decide_eq_true_eq]
 by_cases h1 : x.f1 < y.f1
 ·simp [h1]
 ·by_cases h2 : y.f1 < x.f1
  ·have : ¬ x.f1 = y.f1 := by omega
   simp [h1, h2, this]
  ·have h3 : x.f1 = y.f1 := by omega
   by_cases h4 : x.f0.toList < y.f0.toList
   ·simp [h3, h4]
   ·by_cases h5 : y.f0.toList < x.f0.toList <;> simp [h3, h4, h5]
theorem impl_Guess.lf (x y : S36) : ltOf impl_Guess.cf x y = false ↔ ¬ (x.f1 < y.f1 ∨ (x.f1 = y.f1 ∧ x.f0.toList < y.f0.toList)) := by
 rw [← impl_Guess.lt_iff, Bool.not_eq_true]
theorem impl_Guess.swo : Go.Sort.SWO (ltOf impl_Guess.cf) where
 irrefl x := by
  rw [impl_Guess.lf]
  rintro (h | ⟨_, h⟩)
  ·omega
  ·exact List.lt_irrefl _ h
 trans x y z h1 h2 := by
  rw [impl_Guess.lt_iff] at *
  rcases h1 with h1 | ⟨h1, h3⟩ <;> rcases h2 with h2 | ⟨h2, h4⟩
  ·exact .inl (by omega)
  ·exact .inl (by omega)
  ·exact .inl (by omega)
  ·exact .inr ⟨by omega, List.lt_trans h3 h4⟩
 ntrans x y z h1 h2 := by
  rw [impl_Guess.lf] at *
  rintro (h | ⟨h, h3⟩)
  ·by_cases a : x.f1 < y.f1
   ·exact h1 (.inl a)
   ·exact h2 (.inl (by omega))
  ·have a : x.f1 = y.f1 := by
    by_cases a : x.f1 < y.f1
    ·exact absurd (.inl a) h1
    ·by_cases b : y.f1 < z.f1
     ·exact absurd (.inl b) h2
     ·omega
   have b : ¬ x.f0.toList < y.f0.toList := fun h4 => h1 (.inr ⟨a, h4⟩)
   have c : ¬ y.f0.toList < z.f0.toList := fun h4 => h2 (.inr ⟨by omega, h4⟩)
   exact absurd h3 (List.not_lt.2 (List.le_trans (List.not_lt.1 c) (List.not_lt.1 b)))
theorem impl_Guess.tot (x y : S36) (h1 : ltOf impl_Guess.cf x y = false) (h2 : ltOf impl_Guess.cf y x = false) : x = y := by
 rw [impl_Guess.lf] at *
 have a : x.f1 = y.f1 := by
  by_cases a : x.f1 < y.f1
  ·exact absurd (.inl a) h1
  ·by_cases b : y.f1 < x.f1
   ·exact absurd (.inl b) h2
   ·omega
 have b : x.f0.toList = y.f0.toList := List.le_antisymm (List.not_lt.1 fun h => h2 (.inr ⟨a.symm, h⟩)) (List.not_lt.1 fun h => h1 (.inr ⟨a, h⟩))
 rw [Lib.toList_data, Lib.toList_data] at b
 cases x; cases y
 simp only [S36.mk.injEq]
 exact ⟨ByteArray.ext (Array.toList_inj.1 b), a⟩
theorem impl_Guess.order (x y : S36) : impl_guessOrder.f 3 x.f0 x.f1 y.f0 y.f1 = some (impl_Guess.cf x y) := by
 have n1 : ∀ z : Int, (z != z) = false := fun z => by simp
 have n2 : ∀ z : ByteArray, (z.toList != z.toList) = false := fun z => by simp
 have o : ∀ u v : Int, cmp_Or_int.f 3 [u, v] = some (if u = 0 then v else u) := fun u v => by
  by_cases h : u = 0
  ·by_cases h2 : v = 0
   ·simp [cmp_Or_int.f, cmp_Or_int.l0, rd, h, h2, wrap64]
   ·simp [cmp_Or_int.f, cmp_Or_int.l0, rd, h, h2, wrap64]
  ·simp [cmp_Or_int.f, cmp_Or_int.l0, rd, h, wrap64]
 unfold impl_guessOrder.f cmp_Compare_int.f cmp_Compare_string.f cmp_isNaN_int.f cmp_isNaN_string.f impl_Guess.cf
 simp only [n1, n2, Option.bind_some, Bool.false_eq_true, if_false]
 by_cases h1 : x.f1 < y.f1
 ·by_cases h4 : Op.bytesLess x.f0.toList y.f0.toList = true <;> by_cases h5 : Op.bytesLess y.f0.toList x.f0.toList = true <;> simp [h1, h4, h5, o]
 ·by_cases h2 : x.f1 > y.f1
  ·by_cases h4 : Op.bytesLess x.f0.toList y.f0.toList = true <;> by_cases h5 : Op.bytesLess y.f0.toList x.f0.toList = true <;> simp [h1, h2, h4, h5, o]
  ·by_cases h4 : Op.bytesLess x.f0.toList y.f0.toList = true <;> by_cases h5 : Op.bytesLess y.f0.toList x.f0.toList = true <;> simp [h1, h2, h4, h5, o]
def impl_Guess.enc (x : S36) : List Value := [.string x.f0, .int .i64 x.f1]
def impl_Guess.fl (xs : List S36) : Array Value := Go.Sort.flatK impl_Guess.enc 2 xs.toArray
theorem impl_Guess.fl_size (xs : List S36) : (impl_Guess.fl xs).size = xs.length * 2 := by simp [impl_Guess.fl]
theorem impl_Guess.fl_get (xs : List S36) (j : Nat) (p : S36) (h : xs[j]? = some p) : ((impl_Guess.fl xs).toList.drop (j * 2)).take 2 = impl_Guess.enc p := by
 obtain ⟨hj, rfl⟩ := List.getElem?_eq_some_iff.1 h
 apply List.ext_getElem?
 intro t
 have e : ∀ t, t < 2 → (impl_Guess.fl xs)[j * 2 + t]! = (impl_Guess.enc xs[j])[t]! := fun t ht => by
  unfold impl_Guess.fl
  rw [Go.Sort.get_flatK _ _ _ _ (by simp; omega), show (j * 2 + t) / 2 = j by omega, show (j * 2 + t) % 2 = t by omega]
  simp [hj]
 rcases Nat.lt_or_ge t 2 with ht | ht
 ·rw [List.getElem?_take, if_pos ht, List.getElem?_drop, Array.getElem?_toList]
  have hs : j * 2 + t < (impl_Guess.fl xs).size := by rw [impl_Guess.fl_size]; omega
  have h2 := e t ht
  have h3 : t < (impl_Guess.enc xs[j]).length := by simpa [impl_Guess.enc] using ht
  rw [getElem!_pos (impl_Guess.fl xs) (j * 2 + t) hs, getElem!_pos (impl_Guess.enc xs[j]) t h3] at h2
  rw [Array.getElem?_eq_getElem hs, h2, List.getElem?_eq_getElem h3]
 ·rw [List.getElem?_eq_none (by simp; omega), List.getElem?_eq_none (by simp [impl_Guess.enc]; omega)]
theorem impl_Guess.reps (W : World) (base : Nat) (ok : Nat → Prop) (xs : List S36) : Reps (k36.M W base ok) 2 xs (impl_Guess.fl xs).toList :=
 ⟨by rw [Array.length_toList, impl_Guess.fl_size], fun j p h => by rw [impl_Guess.fl_get xs j p h]; exact k36_mkM W base ok p⟩
theorem impl_Guess.of_reps {W : World} {base : Nat} {ok : Nat → Prop} {xs : List S36} {cs : List Value} (h : Reps (k36.M W base ok) 2 xs cs) : cs = (impl_Guess.fl xs).toList := by
 apply List.ext_getElem?
 intro t
 rcases Nat.lt_or_ge t (xs.length * 2) with ht | ht
 ·have hj : t / 2 < xs.length := by omega
  have e1 := k36_openM (h.2 (t / 2) _ (List.getElem?_eq_getElem hj)); have e2 := impl_Guess.fl_get xs (t / 2) _ (List.getElem?_eq_getElem hj); have e3 := congrArg (fun l : List Value => l[t % 2]?) (e1.trans e2.symm)
  simp only [List.getElem?_take, List.getElem?_drop, if_pos (show t % 2 < 2 by omega), show t / 2 * 2 + t % 2 = t by omega] at e3
  exact e3
 ·rw [List.getElem?_eq_none (by rw [h.1]; exact ht), List.getElem?_eq_none (by rw [Array.length_toList, impl_Guess.fl_size]; exact ht)]
theorem impl_Guess.holds {w : World} {g : Nat} {cur : Array Value} {xs : List S36} (hb : w.heap[g]? = some (.cells cur 36 (0, 0))) (ht : cur.toList.take (xs.length * 2) = (impl_Guess.fl xs).toList) : Go.Sort.HoldsK impl_Guess.enc 2 w g 0 xs.toArray := by
 intro j hj
 have hj' : j < xs.length * 2 := by simpa using hj
 refine ⟨?_, by simp [World.frozen?, hb]⟩
 have h1 : (cur.toList.take (xs.length * 2))[j]? = (impl_Guess.fl xs).toList[j]? := by rw [ht]
 rw [List.getElem?_take_of_lt hj', Array.getElem?_toList, Array.getElem?_toList] at h1
 simp only [World.cell?, hb, Nat.zero_add]
 simp only [Option.isSome_none, Bool.false_eq_true, if_false]
 rw [h1, Array.getElem?_eq_getElem (by rw [impl_Guess.fl_size]; exact hj')]
 show _ = some (id (impl_Guess.fl xs)[j]!)
 rw [getElem!_pos _ _ (by rw [impl_Guess.fl_size]; exact hj')]
 rfl
theorem impl_Guess.take (cur F : Array Value) (h : F.size ≤ cur.size) : (Go.Sort.putCells id 0 F cur).toList.take F.size = F.toList := by
 apply List.ext_getElem?
 intro j
 by_cases hj : j < F.size
 ·rw [List.getElem?_take_of_lt hj, Array.getElem?_toList]
  simp [Go.Sort.putCells, hj, show j < cur.size by omega]
 ·rw [List.getElem?_take_eq_none (by omega), List.getElem?_eq_none (by simp; omega)]
set_option maxHeartbeats 1000000 in
theorem impl_Guess.row {w0 W : World} {base : Nat} {P0 : Nat → Prop} {v : Value} {xs : List S36} (h : Kd.R k36 36 W base P0 v xs) (hB : Below base w0 W) (hbase : base ≤ W.heap.size) (hl : xs.length ≤ 1000000000) :
  Calls Try.prog 107 #[v, .func (.func 108) #[] #[]] W fun e w' => e = .returned (.tuple #[]) ∧ Kd.R k36 36 w' base (fun k_ => P0 k_ ∨ W.heap.size ≤ k_) v (xs.mergeSort impl_Guess.le) ∧ Below base w0 w' ∧ Kept W w' P0 := by
 obtain ⟨hok, inner, ho, hr⟩ := h
 have hr2 : Reps (k36.M W base (fun k => P0 k ∧ some k ≠ v.ownBlock)) 2 xs inner := hr
 have ei := impl_Guess.of_reps hr2; subst ei
 rcases ho.2 with ⟨rfl, h0⟩ | ⟨g, cap, cur, rfl, hb, hg, h1, h2, h3, h4⟩
 ·have e0 : xs = [] := List.length_eq_zero_iff.1 h0
  subst e0
  have := AnyF.slices_SortFunc_none Try.laySortG none 0 (.func (.func 108) #[] #[]) W
  change Calls Try.prog 107 _ _ _ at this
  refine this.mono ?_
  rintro e w' ⟨he, rfl⟩
  refine ⟨he, ?_, hB, Nat.le_refl _, fun _ _ _ => rfl⟩
  rw [List.mergeSort_nil]
  exact Kd.R_nil _ _ _ _ _
 ·have hgl : g < W.heap.size := (Array.getElem?_eq_some_iff.1 hg).1
  have hsz : k36.sz = 2 := rfl
  rw [hsz] at h3 h4
  have hH := impl_Guess.holds hg h4
  have eg : ∀ args w, (callFunc 108 args).run Try.prog w = .ok (.enter 108 args) w := enters_of Try.func108 (by kernel_rfl) rfl
  have hcmp : CmpLays Try.prog 108 #[] impl_Guess.enc 2 impl_Guess.cf g 0 xs.toArray.size W := fun m os dk _ x y => impl_guessOrder.calls 3 x.f0 x.f1 y.f0 y.f1 _ _ (impl_Guess.order x y)
  have := AnyQ.slices_SortFunc_total (α := S36) Try.laySortG 2 Try.isAgg36 Try.sizeOf36 impl_Guess.enc (fun _ => rfl) (fun x v hv => by simp only [impl_Guess.enc, List.mem_cons, List.not_mem_nil, or_false] at hv; rcases hv with rfl | rfl <;> rfl) impl_Guess.cf impl_Guess.swo 108 #[] g 0 cap xs.toArray W eg hcmp hH hgl (by simp; omega) impl_Guess.tot
  change Calls Try.prog 107 #[.slice (some ⟨g, 0, none⟩) xs.length cap, .func (.func 108) #[] #[]] _ _ at this
  refine this.mono ?_
  rintro e w' ⟨he, n, os, rfl⟩
  have hl2 : (xs.mergeSort impl_Guess.le).length = xs.length := List.length_mergeSort xs
  have hhe : (sortWorldK impl_Guess.enc 2 W g 0 n (xs.toArray.toList.mergeSort fun x y => !(ltOf impl_Guess.cf) y x).toArray os).heap[g]? = some (.cells (Go.Sort.putCells id 0 (impl_Guess.fl (xs.mergeSort impl_Guess.le)) cur) 36 (0, 0)) := by
   show (Go.Sort.grow (Go.Sort.putRow id (Go.Sort.ahead W n) g 0 (impl_Guess.fl (xs.mergeSort impl_Guess.le))) os).heap[g]? = _
   rw [Go.Sort.heap_grow_old _ _ (by simpa using hgl)]
   simp [Go.Sort.putRow, Go.Sort.mapBlock, Go.Sort.ahead, Array.getElem?_modify, hg, Go.Sort.onCells]
  have hgr : W.grownBy (sortWorldK impl_Guess.enc 2 W g 0 n (xs.toArray.toList.mergeSort fun x y => !(ltOf impl_Guess.cf) y x).toArray os) (some g) := by
   refine ⟨rfl, rfl, rfl, by simp [sortWorldK, Go.Sort.putRowK], fun k hk hne => ?_⟩
   show (Go.Sort.grow (Go.Sort.putRow id (Go.Sort.ahead W n) g 0 (impl_Guess.fl (xs.mergeSort impl_Guess.le))) os).heap[k]? = _
   rw [Go.Sort.heap_grow_old _ _ (by simpa using hk)]
   have : g ≠ k := fun e => hne (by rw [e])
   simp [Go.Sort.putRow, Go.Sort.mapBlock, Go.Sort.ahead, Array.getElem?_modify, this]
  refine ⟨he, ⟨fun k hk => .inl (hok k hk), (impl_Guess.fl (xs.mergeSort impl_Guess.le)).toList, ⟨?_, .inr ⟨g, cap, _, by rw [hl2], hb, hhe, by rw [hl2]; exact h1, h2, by rw [hsz]; simpa [Go.Sort.putCells] using h3, ?_⟩⟩, impl_Guess.reps _ _ _ _⟩, hB.grown hgr hbase (fun j hj => by cases hj; exact hb), hgr.size, fun i hi hn => hgr.block i hi (fun e => hn (hok i (by rw [e]; rfl)))⟩
  ·rw [Array.length_toList, impl_Guess.fl_size, hsz]
  ·rw [hsz]
   have h5 := impl_Guess.take cur (impl_Guess.fl (xs.mergeSort impl_Guess.le)) (by rw [impl_Guess.fl_size, hl2, h3]; omega)
   rw [impl_Guess.fl_size] at h5
   exact h5
def impl_Guess.f (l0 : List S36) : Option (List S36) := if l0.length ≤ 1000000000 then some (l0.mergeSort impl_Guess.le) else none
-- @FA 107 108
theorem impl_Guess.calls (P0_ : Nat → Prop) (u9000_ : Value) (l0 r1 : List S36) (w0 w : World) (hB : Below w0.heap.size w0 w) (ho0 : Kd.R k36 36 w w0.heap.size P0_ u9000_ l0) (h : impl_Guess.f l0 = some r1) :
  Calls Try.prog 107 #[u9000_, .func (.func 108) #[] #[]] w fun e w' => e = .returned (.tuple #[]) ∧ Kd.R k36 36 w' w0.heap.size (fun k_ => (P0_ k_ ∨ w.heap.size ≤ k_)) u9000_ r1 ∧ Below w0.heap.size w0 w' ∧ Kept w w' (fun k_ => P0_ k_) := by
 unfold impl_Guess.f at h
 split at h
 case isFalse => cases h
 rename_i hsz; obtain rfl := Option.some.inj h
 exact impl_Guess.row ho0 hB hB.size hsz

end Go.Proofs.Ytfpmfaelodfecaa.QFnExactGuesses
