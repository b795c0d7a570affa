import Derived.Test.YtfpmfaelodfecaaQFnExactGuessesx0
import Derived.Test.YtfpmfaelodfecaaQFnExactGuessesx5
import Derived.Test.YtfpmfaelodfecaaVMSh2
import Derived.Test.YtfpmfaelodfecaaQFnExactGuessesx4
namespace Go.Proofs.Ytfpmfaelodfecaa.QFnExactGuesses
open Go.RowKit Go.Proofs.YtfpmfaelodfecaaW.PrintWords Go.Proofs.YtfpmfaelodfecaaW.PrintLast Go.Proofs.YtfpmfaelodfecaaW.PrintMore Go.Proofs.Ytfpmfaelodfecaa.Sh
attribute [local go_sem] max2_int min2_int max_two min_two max_three min_three max_four min_four
set_option linter.unusedVariables false
set_option linter.unusedSimpArgs false
set_option maxHeartbeats 8000000
set_option maxRecDepth 100000
-- shrunk

/-! ### impl_Within: function 106 -/
def impl_Within.f (k : Nat) (a0 : ByteArray) (a1 : ByteArray) (a2 : Int) : Option (Bool) := (impl_Far.f k a0 a1).bind fun t240 => (if t240 ≥ 0 then (some (decide (t240 ≤ a2))) else (some false))
theorem impl_Within.calls (k : Nat) (a0 : ByteArray) (a1 : ByteArray) (a2 : Int) (r : Bool) (w : World) (h : impl_Within.f k a0 a1 a2 = some r) :
  Calls Try.prog 106 #[.string a0, .string a1, .int .i64 a2] w fun e w' => e = .returned (.bool r) ∧ Below w.heap.size w w' := by
 have HB := am (Below.refl w.heap.size w)
 have H : ((impl_Far.f k a0 a1).bind fun t240 => (if t240 ≥ 0 then (some (decide (t240 ≤ a2))) else (some false))) = some r := h
 clear h; replace H := bs H; obtain ⟨t240, A40, H⟩ := H; replace H : (if t240 ≥ 0 then (some (decide (t240 ≤ a2))) else (some false)) = some r := H; have A4 := Aside0.mk A40; clear A40
 by_cases c5 : t240 ≥ 0
 ·rw [if_pos c5] at H; have c5b0 := decide_eq_true c5; clear c5; obtain rfl := Option.some.inj H; go_enter Try.func106, Try.ntmps106
  go_wp2_with (first | ((with_reducible refine gate_callee (f := 23) rfl ?_); refine goesL_ (some 10) rfl rfl Try.func23 (by kernel_rfl) rfl #[.string a0, .string a1] rfl mq ?_; (with_reducible refine (impl_Far.calls k a0 a1 t240 _ A4.out).mono ?_); rintro e w6 ⟨rfl, hb⟩; refine ⟨_, rfl, ?_⟩; replace HB := am (below_step bel hb); (try clear hb); (try clear hb2); (try clear hk); (try clear hi)))
  go_ret
  exact ⟨eq_, bel⟩
 rw [if_neg c5] at H; have c5b0 := decide_eq_false c5; clear c5; obtain rfl := Option.some.inj H; go_enter Try.func106, Try.ntmps106
 go_wp2_with (first | ((with_reducible refine gate_callee (f := 23) rfl ?_); refine goesL_ (some 10) rfl rfl Try.func23 (by kernel_rfl) rfl #[.string a0, .string a1] rfl mq ?_; (with_reducible refine (impl_Far.calls k a0 a1 t240 _ A4.out).mono ?_); rintro e w7 ⟨rfl, hb⟩; refine ⟨_, rfl, ?_⟩; replace HB := am (below_step bel hb); (try clear hb); (try clear hb2); (try clear hk); (try clear hi)))
 go_ret
 exact ⟨eq_, bel⟩

/-! ### cmp_Or_int: function 135 -/
def cmp_Or_int.l0 : Nat → Int → List Int → Int → Int → Option (Int)
 | 0, _, _, _, _ => none
 | k + 1, x3, x6, x7, x8 => if x8 < x7 then (if 0 ≤ x8 then (if x8 < (x6.length : Int) then (if (rd x6 x8) = x3 then (cmp_Or_int.l0 k x3 x6 x7 (wrap64 (x8 + 1))) else (some (rd x6 x8))) else (none)) else (none)) else (some x3)
def cmp_Or_int.f (k : Nat) (l0 : List Int) : Option (Int) := cmp_Or_int.l0 k 0 l0 (l0.length : Int) 0
theorem cmp_Or_int.calls (k : Nat) (A0 : Option Addr) (c0 : Nat) (l0 : List Int) (r : Int) (w : World) (hr0 : Kd.C (Kd.int .i64) w A0 l0.length l0) (hc0 : l0.length ≤ c0) (h : cmp_Or_int.f k l0 = some r) :
  Calls Try.prog 135 #[.slice A0 l0.length c0] w fun e w' => e = .returned (.int .i64 r) ∧ Drawn0 w w' := by
 have HR0 := am hr0; have HC0 := am hc0; clear hr0 hc0
 have H : (cmp_Or_int.l0 k 0 l0 (l0.length : Int) 0) = some r := h
 clear h
 have H' := am H
 clear H; go_enter Try.func135, Try.ntmps135; go_wp2
 go_loopg [8] k (fun kq v8 w' => ∃ (x8_1 : Int), v8 = .int .i64 x8_1 ∧ Aside0 (cmp_Or_int.l0 kq 0 l0 (l0.length : Int) x8_1 = some r) ∧ Aside0 (kq ≤ k) ∧ Drawn0 w w')
 case atStart => exact ⟨(0), sq, H', ⟨Nat.le_refl _⟩, dr⟩
 case round =>
  clear H'; (try clear c1); obtain ⟨x8_1, rfl, HA, HK1, ⟨m1, rfl⟩⟩ := hrel
  cases gk with
  | zero => exact absurd HA.out (by simp [cmp_Or_int.l0])
  | succ k1 =>
   have H := HA.out; clear HA
   simp only [cmp_Or_int.l0] at H
   by_cases c2 : x8_1 < (l0.length : Int)
   ·rw [if_pos c2] at H; have c2b0 := decide_eq_true c2; clear c2
    replace H := it H; obtain ⟨c3b0, H⟩ := H
    replace H := it H; obtain ⟨c4b0, H⟩ := H
    by_cases c5 : (rd l0 x8_1) = 0
    ·rw [if_pos c5] at H
     have c5b0 : ((rd l0 x8_1) == 0) = true := beq_iff_eq.mpr c5
     have c5b1 : ((rd l0 x8_1) != 0) = false := bne_eq_false_iff_eq.mpr c5
     clear c5
     have H' := am H
     clear H
     have p241 : 0 ≤ (x8_1 : Int) := of_decide_eq_true ad
     have q241 : x8_1 < (l0.length : Int) := of_decide_eq_true ad
     obtain ⟨ad241, e241, hx241_0⟩ := Kd.at_int HR0.out x8_1 p241 q241
     cases e241
     replace p241 := eq_true p241; replace q241 := eq_true q241; go_wp2
     go_roundg k1
     case measure => have := HK1.out; omega
     case rel => exact ⟨(wrap64 (x8_1 + 1)), sq, H', ⟨b22_⟩, dr⟩
    rw [if_neg c5] at H
    have c5b0 : ((rd l0 x8_1) == 0) = false := beq_eq_false_iff_ne.mpr c5
    have c5b1 : ((rd l0 x8_1) != 0) = true := bne_iff_ne.mpr c5
    obtain rfl := Option.some.inj H
    have p241 : 0 ≤ (x8_1 : Int) := of_decide_eq_true ad
    have q241 : x8_1 < (l0.length : Int) := of_decide_eq_true ad
    obtain ⟨ad241, e241, hx241_0⟩ := Kd.at_int HR0.out x8_1 p241 q241
    cases e241
    replace p241 := eq_true p241; replace q241 := eq_true q241; go_wp2; go_ret
    exact ⟨sq, dr⟩
   rw [if_neg c2] at H; have c2b0 := decide_eq_false c2; clear c2; obtain rfl := Option.some.inj H; go_wp2; go_ret
   exact ⟨sq, dr⟩

/-! ### cmp_isNaN_int: function 161 -/
def cmp_isNaN_int.f (a0 : Int) : Option (Bool) := some (a0 != a0)
theorem cmp_isNaN_int.calls (a0 : Int) (r : Bool) (w : World) (h : cmp_isNaN_int.f a0 = some r) :
  Calls Try.prog 161 #[.int .i64 a0] w fun e w' => e = .returned (.bool r) ∧ Drawn0 w w' := by
 have H : (some (a0 != a0)) = some r := h
 clear h; obtain rfl := Option.some.inj H; go_enter Try.func161, Try.ntmps161; go_wp2; go_ret
 exact ⟨sq, dr⟩

/-! ### cmp_Compare_int: function 136 -/
def cmp_Compare_int.f (a0 : Int) (a1 : Int) : Option (Int) := (cmp_isNaN_int.f a0).bind fun t242 => ((cmp_isNaN_int.f a1).bind fun t243 => (if t242 = true then (if t243 = true then (some 0) else (some (-1))) else (if t243 = true then (some 1) else (if a0 < a1 then (some (-1)) else (if a0 > a1 then (some 1) else (some 0))))))
theorem cmp_Compare_int.calls (a0 : Int) (a1 : Int) (r : Int) (w : World) (h : cmp_Compare_int.f a0 a1 = some r) :
  Calls Try.prog 136 #[.int .i64 a0, .int .i64 a1] w fun e w' => e = .returned (.int .i64 r) ∧ Drawn0 w w' := by
 have H : ((cmp_isNaN_int.f a0).bind fun t242 => ((cmp_isNaN_int.f a1).bind fun t243 => (if t242 = true then (if t243 = true then (some 0) else (some (-1))) else (if t243 = true then (some 1) else (if a0 < a1 then (some (-1)) else (if a0 > a1 then (some 1) else (some 0))))))) = some r := h
 clear h; replace H := bs H; obtain ⟨t242, A30, H⟩ := H; replace H : ((cmp_isNaN_int.f a1).bind fun t243 => (if t242 = true then (if t243 = true then (some 0) else (some (-1))) else (if t243 = true then (some 1) else (if a0 < a1 then (some (-1)) else (if a0 > a1 then (some 1) else (some 0)))))) = some r := H; have A3 := Aside0.mk A30; clear A30; replace H := bs H; obtain ⟨t243, A40, H⟩ := H; replace H : (if t242 = true then (if t243 = true then (some 0) else (some (-1))) else (if t243 = true then (some 1) else (if a0 < a1 then (some (-1)) else (if a0 > a1 then (some 1) else (some 0))))) = some r := H; have A4 := Aside0.mk A40; clear A40
 by_cases c5 : t242 = true
 ·subst c5
  have H1 : (if t243 = true then (some 0) else (some (-1))) = some r := b16_
  replace H := H1; clear H1
  by_cases c6 : t243 = true
  ·subst c6
   have H1 : (some 0) = some r := b16_
   replace H := H1; clear H1
   obtain rfl := Option.some.inj H; go_enter Try.func136, Try.ntmps136
   go_wp2_with (first | ((with_reducible refine gate_callee (f := 161) rfl ?_); refine goesL_ (some 8) rfl rfl Try.func161 (by kernel_rfl) rfl #[.int .i64 a0] rfl mq ?_; (with_reducible refine (cmp_isNaN_int.calls a0 true _ A3.out).mono ?_); rintro e w' ⟨rfl, ⟨nd, rfl⟩⟩; refine ⟨_, rfl, ?_⟩) | ((with_reducible refine gate_callee (f := 161) rfl ?_); refine goesL_ (some 10) rfl rfl Try.func161 (by kernel_rfl) rfl #[.int .i64 a1] rfl mq ?_; (with_reducible refine (cmp_isNaN_int.calls a1 true _ A4.out).mono ?_); rintro e w' ⟨rfl, ⟨nd, rfl⟩⟩; refine ⟨_, rfl, ?_⟩))
   go_ret
   exact ⟨sq, dr⟩
  replace c6 := Bool.eq_false_iff.mpr c6; subst c6
  have H1 : (some (-1)) = some r := b5_
  replace H := H1; clear H1
  obtain rfl := Option.some.inj H; go_enter Try.func136, Try.ntmps136
  go_wp2_with (first | ((with_reducible refine gate_callee (f := 161) rfl ?_); refine goesL_ (some 8) rfl rfl Try.func161 (by kernel_rfl) rfl #[.int .i64 a0] rfl mq ?_; (with_reducible refine (cmp_isNaN_int.calls a0 true _ A3.out).mono ?_); rintro e w' ⟨rfl, ⟨nd, rfl⟩⟩; refine ⟨_, rfl, ?_⟩) | ((with_reducible refine gate_callee (f := 161) rfl ?_); refine goesL_ (some 10) rfl rfl Try.func161 (by kernel_rfl) rfl #[.int .i64 a1] rfl mq ?_; (with_reducible refine (cmp_isNaN_int.calls a1 false _ A4.out).mono ?_); rintro e w' ⟨rfl, ⟨nd, rfl⟩⟩; refine ⟨_, rfl, ?_⟩))
  go_ret
  exact ⟨sq, dr⟩
 replace c5 := Bool.eq_false_iff.mpr c5; subst c5
 have H1 : (if t243 = true then (some 1) else (if a0 < a1 then (some (-1)) else (if a0 > a1 then (some 1) else (some 0)))) = some r := b5_
 replace H := H1; clear H1
 by_cases c7 : t243 = true
 ·subst c7
  have H1 : (some 1) = some r := b16_
  replace H := H1; clear H1
  obtain rfl := Option.some.inj H; go_enter Try.func136, Try.ntmps136
  go_wp2_with (first | ((with_reducible refine gate_callee (f := 161) rfl ?_); refine goesL_ (some 8) rfl rfl Try.func161 (by kernel_rfl) rfl #[.int .i64 a0] rfl mq ?_; (with_reducible refine (cmp_isNaN_int.calls a0 false _ A3.out).mono ?_); rintro e w' ⟨rfl, ⟨nd, rfl⟩⟩; refine ⟨_, rfl, ?_⟩) | ((with_reducible refine gate_callee (f := 161) rfl ?_); refine goesL_ (some 10) rfl rfl Try.func161 (by kernel_rfl) rfl #[.int .i64 a1] rfl mq ?_; (with_reducible refine (cmp_isNaN_int.calls a1 true _ A4.out).mono ?_); rintro e w' ⟨rfl, ⟨nd, rfl⟩⟩; refine ⟨_, rfl, ?_⟩))
  go_ret
  exact ⟨sq, dr⟩
 replace c7 := Bool.eq_false_iff.mpr c7; subst c7
 have H1 : (if a0 < a1 then (some (-1)) else (if a0 > a1 then (some 1) else (some 0))) = some r := b5_
 replace H := H1; clear H1
 by_cases c8 : a0 < a1
 ·rw [if_pos c8] at H; have c8b0 := decide_eq_true c8; clear c8; obtain rfl := Option.some.inj H; go_enter Try.func136, Try.ntmps136
  go_wp2_with (first | ((with_reducible refine gate_callee (f := 161) rfl ?_); refine goesL_ (some 8) rfl rfl Try.func161 (by kernel_rfl) rfl #[.int .i64 a0] rfl mq ?_; (with_reducible refine (cmp_isNaN_int.calls a0 false _ A3.out).mono ?_); rintro e w' ⟨rfl, ⟨nd, rfl⟩⟩; refine ⟨_, rfl, ?_⟩) | ((with_reducible refine gate_callee (f := 161) rfl ?_); refine goesL_ (some 10) rfl rfl Try.func161 (by kernel_rfl) rfl #[.int .i64 a1] rfl mq ?_; (with_reducible refine (cmp_isNaN_int.calls a1 false _ A4.out).mono ?_); rintro e w' ⟨rfl, ⟨nd, rfl⟩⟩; refine ⟨_, rfl, ?_⟩))
  go_ret
  exact ⟨sq, dr⟩
 rw [if_neg c8] at H; have c8b0 := decide_eq_false c8; clear c8
 by_cases c9 : a0 > a1
 ·rw [if_pos c9] at H; have c9b0 := decide_eq_true c9; clear c9; obtain rfl := Option.some.inj H; go_enter Try.func136, Try.ntmps136
  go_wp2_with (first | ((with_reducible refine gate_callee (f := 161) rfl ?_); refine goesL_ (some 8) rfl rfl Try.func161 (by kernel_rfl) rfl #[.int .i64 a0] rfl mq ?_; (with_reducible refine (cmp_isNaN_int.calls a0 false _ A3.out).mono ?_); rintro e w' ⟨rfl, ⟨nd, rfl⟩⟩; refine ⟨_, rfl, ?_⟩) | ((with_reducible refine gate_callee (f := 161) rfl ?_); refine goesL_ (some 10) rfl rfl Try.func161 (by kernel_rfl) rfl #[.int .i64 a1] rfl mq ?_; (with_reducible refine (cmp_isNaN_int.calls a1 false _ A4.out).mono ?_); rintro e w' ⟨rfl, ⟨nd, rfl⟩⟩; refine ⟨_, rfl, ?_⟩))
  go_ret
  exact ⟨sq, dr⟩
 rw [if_neg c9] at H; have c9b0 := decide_eq_false c9; clear c9; obtain rfl := Option.some.inj H; go_enter Try.func136, Try.ntmps136
 go_wp2_with (first | ((with_reducible refine gate_callee (f := 161) rfl ?_); refine goesL_ (some 8) rfl rfl Try.func161 (by kernel_rfl) rfl #[.int .i64 a0] rfl mq ?_; (with_reducible refine (cmp_isNaN_int.calls a0 false _ A3.out).mono ?_); rintro e w' ⟨rfl, ⟨nd, rfl⟩⟩; refine ⟨_, rfl, ?_⟩) | ((with_reducible refine gate_callee (f := 161) rfl ?_); refine goesL_ (some 10) rfl rfl Try.func161 (by kernel_rfl) rfl #[.int .i64 a1] rfl mq ?_; (with_reducible refine (cmp_isNaN_int.calls a1 false _ A4.out).mono ?_); rintro e w' ⟨rfl, ⟨nd, rfl⟩⟩; refine ⟨_, rfl, ?_⟩))
 go_ret
 exact ⟨sq, dr⟩

/-! ### cmp_isNaN_string: function 162 -/
def cmp_isNaN_string.f (a0 : ByteArray) : Option (Bool) := some (a0.toList != a0.toList)
theorem cmp_isNaN_string.calls (a0 : ByteArray) (r : Bool) (w : World) (h : cmp_isNaN_string.f a0 = some r) :
  Calls Try.prog 162 #[.string a0] w fun e w' => e = .returned (.bool r) ∧ Drawn0 w w' := by
 have H : (some (a0.toList != a0.toList)) = some r := h
 clear h; obtain rfl := Option.some.inj H; go_enter Try.func162, Try.ntmps162; go_wp2; go_ret
 exact ⟨sq, dr⟩

/-! ### cmp_Compare_string: function 137 -/
def cmp_Compare_string.f (a0 : ByteArray) (a1 : ByteArray) : Option (Int) := (cmp_isNaN_string.f a0).bind fun t244 => ((cmp_isNaN_string.f a1).bind fun t245 => (if t244 = true then (if t245 = true then (some 0) else (some (-1))) else (if t245 = true then (some 1) else (if (Op.bytesLess a0.toList a1.toList) = true then (some (-1)) else (if (Op.bytesLess a1.toList a0.toList) = true then (some 1) else (some 0))))))
theorem cmp_Compare_string.ne : ∀ {a b : List UInt8}, Op.bytesLess b a = true → (a == b) = false
 | [], [], h => by simp [Op.bytesLess] at h
 | [], _ :: _, h => by rfl
 | _ :: _, [], h => by rfl
 | x :: a, y :: b, h => by
  rw [List.cons_beq_cons]
  by_cases e : x = y
  ·subst e
   have h' : Op.bytesLess b a = true := by simpa [Op.bytesLess] using h
   rw [cmp_Compare_string.ne h', Bool.and_false]
  ·simp [e]
theorem cmp_Compare_string.eq : ∀ {a b : List UInt8}, Op.bytesLess a b = false → Op.bytesLess b a = false → (a == b) = true
 | [], [], _, _ => rfl
 | [], _ :: _, h, _ => by simp [Op.bytesLess] at h
 | _ :: _, [], _, h => by simp [Op.bytesLess] at h
 | x :: a, y :: b, h, h2 => by
  have e : x = y := by
   by_cases c : x < y
   ·simp [Op.bytesLess, c] at h
   ·by_cases c2 : y < x
    ·simp [Op.bytesLess, c2] at h2
    exact UInt8.le_antisymm (UInt8.not_lt.1 c2) (UInt8.not_lt.1 c)
  subst e
  rw [List.cons_beq_cons, cmp_Compare_string.eq (a := a) (b := b) (by simpa [Op.bytesLess] using h) (by simpa [Op.bytesLess] using h2)]
  simp
theorem cmp_Compare_string.calls (a0 : ByteArray) (a1 : ByteArray) (r : Int) (w : World) (h : cmp_Compare_string.f a0 a1 = some r) :
  Calls Try.prog 137 #[.string a0, .string a1] w fun e w' => e = .returned (.int .i64 r) ∧ Drawn0 w w' := by
 have H : ((cmp_isNaN_string.f a0).bind fun t244 => ((cmp_isNaN_string.f a1).bind fun t245 => (if t244 = true then (if t245 = true then (some 0) else (some (-1))) else (if t245 = true then (some 1) else (if (Op.bytesLess a0.toList a1.toList) = true then (some (-1)) else (if (Op.bytesLess a1.toList a0.toList) = true then (some 1) else (some 0))))))) = some r := h
 clear h; replace H := bs H; obtain ⟨t244, A30, H⟩ := H; replace H : ((cmp_isNaN_string.f a1).bind fun t245 => (if t244 = true then (if t245 = true then (some 0) else (some (-1))) else (if t245 = true then (some 1) else (if (Op.bytesLess a0.toList a1.toList) = true then (some (-1)) else (if (Op.bytesLess a1.toList a0.toList) = true then (some 1) else (some 0)))))) = some r := H; have A3 := Aside0.mk A30; clear A30; replace H := bs H; obtain ⟨t245, A40, H⟩ := H; replace H : (if t244 = true then (if t245 = true then (some 0) else (some (-1))) else (if t245 = true then (some 1) else (if (Op.bytesLess a0.toList a1.toList) = true then (some (-1)) else (if (Op.bytesLess a1.toList a0.toList) = true then (some 1) else (some 0))))) = some r := H; have A4 := Aside0.mk A40; clear A40
 by_cases c5 : t244 = true
 ·subst c5
  have H1 : (if t245 = true then (some 0) else (some (-1))) = some r := b16_
  replace H := H1; clear H1
  by_cases c6 : t245 = true
  ·subst c6
   have H1 : (some 0) = some r := b16_
   replace H := H1; clear H1
   obtain rfl := Option.some.inj H; go_enter Try.func137, Try.ntmps137
   go_wp2_with (first | ((with_reducible refine gate_callee (f := 162) rfl ?_); refine goesL_ (some 8) rfl rfl Try.func162 (by kernel_rfl) rfl #[.string a0] rfl mq ?_; (with_reducible refine (cmp_isNaN_string.calls a0 true _ A3.out).mono ?_); rintro e w' ⟨rfl, ⟨nd, rfl⟩⟩; refine ⟨_, rfl, ?_⟩) | ((with_reducible refine gate_callee (f := 162) rfl ?_); refine goesL_ (some 10) rfl rfl Try.func162 (by kernel_rfl) rfl #[.string a1] rfl mq ?_; (with_reducible refine (cmp_isNaN_string.calls a1 true _ A4.out).mono ?_); rintro e w' ⟨rfl, ⟨nd, rfl⟩⟩; refine ⟨_, rfl, ?_⟩))
   go_ret
   exact ⟨sq, dr⟩
  replace c6 := Bool.eq_false_iff.mpr c6; subst c6
  have H1 : (some (-1)) = some r := b5_
  replace H := H1; clear H1
  obtain rfl := Option.some.inj H; go_enter Try.func137, Try.ntmps137
  go_wp2_with (first | ((with_reducible refine gate_callee (f := 162) rfl ?_); refine goesL_ (some 8) rfl rfl Try.func162 (by kernel_rfl) rfl #[.string a0] rfl mq ?_; (with_reducible refine (cmp_isNaN_string.calls a0 true _ A3.out).mono ?_); rintro e w' ⟨rfl, ⟨nd, rfl⟩⟩; refine ⟨_, rfl, ?_⟩) | ((with_reducible refine gate_callee (f := 162) rfl ?_); refine goesL_ (some 10) rfl rfl Try.func162 (by kernel_rfl) rfl #[.string a1] rfl mq ?_; (with_reducible refine (cmp_isNaN_string.calls a1 false _ A4.out).mono ?_); rintro e w' ⟨rfl, ⟨nd, rfl⟩⟩; refine ⟨_, rfl, ?_⟩))
  go_ret
  exact ⟨sq, dr⟩
 replace c5 := Bool.eq_false_iff.mpr c5; subst c5
 have H1 : (if t245 = true then (some 1) else (if (Op.bytesLess a0.toList a1.toList) = true then (some (-1)) else (if (Op.bytesLess a1.toList a0.toList) = true then (some 1) else (some 0)))) = some r := b5_
 replace H := H1; clear H1
 by_cases c7 : t245 = true
 ·subst c7
  have H1 : (some 1) = some r := b16_
  replace H := H1; clear H1
  obtain rfl := Option.some.inj H; go_enter Try.func137, Try.ntmps137
  go_wp2_with (first | ((with_reducible refine gate_callee (f := 162) rfl ?_); refine goesL_ (some 8) rfl rfl Try.func162 (by kernel_rfl) rfl #[.string a0] rfl mq ?_; (with_reducible refine (cmp_isNaN_string.calls a0 false _ A3.out).mono ?_); rintro e w' ⟨rfl, ⟨nd, rfl⟩⟩; refine ⟨_, rfl, ?_⟩) | ((with_reducible refine gate_callee (f := 162) rfl ?_); refine goesL_ (some 10) rfl rfl Try.func162 (by kernel_rfl) rfl #[.string a1] rfl mq ?_; (with_reducible refine (cmp_isNaN_string.calls a1 true _ A4.out).mono ?_); rintro e w' ⟨rfl, ⟨nd, rfl⟩⟩; refine ⟨_, rfl, ?_⟩))
  go_ret
  exact ⟨sq, dr⟩
 replace c7 := Bool.eq_false_iff.mpr c7; subst c7
 have H1 : (if (Op.bytesLess a0.toList a1.toList) = true then (some (-1)) else (if (Op.bytesLess a1.toList a0.toList) = true then (some 1) else (some 0))) = some r := b5_
 replace H := H1; clear H1
 by_cases c8 : (Op.bytesLess a0.toList a1.toList) = true
 ·rw [if_pos c8] at H
  have c8b0 : (Op.bytesLess a0.toList a1.toList) = true := c8
  clear c8; obtain rfl := Option.some.inj H; go_enter Try.func137, Try.ntmps137
  go_wp2_with (first | ((with_reducible refine gate_callee (f := 162) rfl ?_); refine goesL_ (some 8) rfl rfl Try.func162 (by kernel_rfl) rfl #[.string a0] rfl mq ?_; (with_reducible refine (cmp_isNaN_string.calls a0 false _ A3.out).mono ?_); rintro e w' ⟨rfl, ⟨nd, rfl⟩⟩; refine ⟨_, rfl, ?_⟩) | ((with_reducible refine gate_callee (f := 162) rfl ?_); refine goesL_ (some 10) rfl rfl Try.func162 (by kernel_rfl) rfl #[.string a1] rfl mq ?_; (with_reducible refine (cmp_isNaN_string.calls a1 false _ A4.out).mono ?_); rintro e w' ⟨rfl, ⟨nd, rfl⟩⟩; refine ⟨_, rfl, ?_⟩))
  go_ret
  exact ⟨sq, dr⟩
 rw [if_neg c8] at H
 have c8b0 : (Op.bytesLess a0.toList a1.toList) = false := by simpa using c8
 clear c8
 by_cases c9 : (Op.bytesLess a1.toList a0.toList) = true
 ·rw [if_pos c9] at H
  have c9b0 : (Op.bytesLess a1.toList a0.toList) = true := c9
  clear c9
  have c9e0 : (a0.toList == a1.toList) = false := cmp_Compare_string.ne c9b0
  obtain rfl := Option.some.inj H; go_enter Try.func137, Try.ntmps137
  go_wp2_with (first | ((with_reducible refine gate_callee (f := 162) rfl ?_); refine goesL_ (some 8) rfl rfl Try.func162 (by kernel_rfl) rfl #[.string a0] rfl mq ?_; (with_reducible refine (cmp_isNaN_string.calls a0 false _ A3.out).mono ?_); rintro e w' ⟨rfl, ⟨nd, rfl⟩⟩; refine ⟨_, rfl, ?_⟩) | ((with_reducible refine gate_callee (f := 162) rfl ?_); refine goesL_ (some 10) rfl rfl Try.func162 (by kernel_rfl) rfl #[.string a1] rfl mq ?_; (with_reducible refine (cmp_isNaN_string.calls a1 false _ A4.out).mono ?_); rintro e w' ⟨rfl, ⟨nd, rfl⟩⟩; refine ⟨_, rfl, ?_⟩))
  go_ret
  exact ⟨sq, dr⟩
 rw [if_neg c9] at H
 have c9b0 : (Op.bytesLess a1.toList a0.toList) = false := by simpa using c9
 clear c9
 have c9e0 : (a0.toList == a1.toList) = true := cmp_Compare_string.eq c8b0 c9b0
 obtain rfl := Option.some.inj H; go_enter Try.func137, Try.ntmps137
 go_wp2_with (first | ((with_reducible refine gate_callee (f := 162) rfl ?_); refine goesL_ (some 8) rfl rfl Try.func162 (by kernel_rfl) rfl #[.string a0] rfl mq ?_; (with_reducible refine (cmp_isNaN_string.calls a0 false _ A3.out).mono ?_); rintro e w' ⟨rfl, ⟨nd, rfl⟩⟩; refine ⟨_, rfl, ?_⟩) | ((with_reducible refine gate_callee (f := 162) rfl ?_); refine goesL_ (some 10) rfl rfl Try.func162 (by kernel_rfl) rfl #[.string a1] rfl mq ?_; (with_reducible refine (cmp_isNaN_string.calls a1 false _ A4.out).mono ?_); rintro e w' ⟨rfl, ⟨nd, rfl⟩⟩; refine ⟨_, rfl, ?_⟩))
 go_ret
 exact ⟨sq, dr⟩

/-! ### impl_guessOrder: function 108 -/
/-- What is behind: draws and new blocks alone. -/
def impl_guessOrder.Gr (w W : World) : Prop := ∃ q os', W = Go.Sort.grow (w.drewN q) os'
theorem impl_guessOrder.Gr.refl (w : World) : impl_guessOrder.Gr w w := ⟨0, #[], by rw [Go.Sort.grow_empty]; rfl⟩
theorem impl_guessOrder.Gr.drewN {w W : World} (h : impl_guessOrder.Gr w W) (n : Nat) : impl_guessOrder.Gr w (W.drewN n) := by
 obtain ⟨q, os, rfl⟩ := h
 exact ⟨q + n, os, by rw [← World.drewN_drewN]; rfl⟩
theorem impl_guessOrder.Gr.drew {w W : World} (h : impl_guessOrder.Gr w W) : impl_guessOrder.Gr w W.drew := h.drewN 1
theorem impl_guessOrder.Gr.alloc {w W : World} (h : impl_guessOrder.Gr w W) (o : Obj) : impl_guessOrder.Gr w (W.alloc o) := by
 obtain ⟨q, os, rfl⟩ := h
 exact ⟨q, os ++ #[o], by rw [Go.Sort.alloc_eq_grow, Go.Sort.grow_grow]⟩
section
variable {P : Program} {ops : Array Oper} {rest : List Oper} {o : Oper} {a : Act} {Q : Exit → Act → World → Prop} {Kc : Act → World → Prop}
theorem impl_guessOrder.box {w W : World} (HG : impl_guessOrder.Gr w W) (hgd : o.guard = none) {N : Tmp} (_hd : o.dst = some N) {cs : Array Value} {t : TypeId}
  (hrun : (execOp a.eval o).run P W = .ok (.value (.pointer (some ⟨W.heap.size, 0, none⟩))) (W.alloc (.cells cs t (0, 0))))
  (h : ∀ g, g = W.heap.size → ∀ w1, w1.heap[g]? = some (.cells cs t (0, 0)) → Below W.heap.size W w1 → impl_guessOrder.Gr w w1 → wpList P ops Q rest (a.put o.dst (.pointer (some ⟨g, 0, none⟩))) w1) : wpList P ops Q (o :: rest) a W :=
 Kd.event_run hgd hrun (h _ rfl _ (blk_new W _) (below_alloc (Below.refl _ _) _) (HG.alloc _))
theorem impl_guessOrder.lit {α : Type} {w W : World} (HG : impl_guessOrder.Gr w W) (d : Kd α) {w0 : World} (base e : Nat) (hw : Region.wanted o (yielded ops a.tmps) = true) {N : Tmp} (hd : o.dst = some N) {xs : List α} {inner : List Value} {ok okp : Nat → Prop}
  (hrun : (execOp a.eval o).run P W = .ok (.value (.slice (some ⟨W.heap.size, 0, none⟩) xs.length xs.length)) (W.alloc (.cells inner.toArray e)))
  (hrep : Reps (d.M W base okp) d.sz xs inner) (hok : ∀ k, okp k → ok k) (hfresh : ok W.heap.size) (HB : Below base w0 W) (hbase : base ≤ W.heap.size) (hm : xs.length ≤ 9223372036854775807)
  (h : ∀ v1 w1, d.R e w1 base ok v1 xs → Below base w0 w1 → W.grownBy w1 none → (∃ b, v1.ownBlock = some b ∧ W.heap.size ≤ b) → impl_guessOrder.Gr w w1 → Kc (a.put o.dst v1) w1) : if Region.wanted o (yielded ops a.tmps) = true then Oper.wp P o a W Kc Q else Kc (a.put o.dst undef) W := by
 have h0 := Kd.R_lit_step (P := P) (Q := Q) (Kc := fun a' w' => ∃ v1, a' = a.put o.dst v1 ∧ d.R e w' base ok v1 xs ∧ Below base w0 w' ∧ W.grownBy w' none ∧ (∃ b, v1.ownBlock = some b ∧ W.heap.size ≤ b)) d base e hw hd hrun hrep hok hfresh HB hbase hm (fun v1 w1 z1 z2 z3 z4 => ⟨v1, rfl, z1, z2, z3, z4⟩)
 rw [if_pos hw] at h0 ⊢
 unfold Oper.wp at h0 ⊢
 rw [hrun] at h0 ⊢
 obtain ⟨v1, e1, z1, z2, z3, z4⟩ := h0
 show Kc _ _
 rw [e1]
 exact h v1 _ z1 z2 z3 z4 (HG.alloc _)
end
def impl_guessOrder.f (k : Nat) (a0_0 : ByteArray) (a0_1 : Int) (a1_0 : ByteArray) (a1_1 : Int) : Option (Int) := (cmp_Compare_int.f a0_1 a1_1).bind fun t248 => ((cmp_Compare_string.f a0_0 a1_0).bind fun t249 => ((cmp_Or_int.f k (([t248, t249] : List Int))).bind fun t253 => (some t253)))
def impl_guessOrder.T1 : Bool × List (List Nat × List Nat) := (true, [([], []), ([0], [0]), ([], []), ([2], [2]), ([1, 3], [1, 3]), ([], []), ([5], [5]), ([], []), ([7], [7]), ([6, 8, 4], [6, 8]), ([4, 9], [4, 9]), ([10, 9], [10]), ([11, 11, 0, 1, 2, 3, 4, 5, 6, 7, 8, 9, 10, 11], [11])])
def impl_guessOrder.B1 : List Nat := [0, 1, 0, 4, 15, 0, 32, 0, 128, 511, 1023, 2047, 4095]
theorem impl_guessOrder.tab1 : rtab .any (opsOf Try.f108 1) = impl_guessOrder.T1 := by kernel_rfl
theorem impl_guessOrder.bits1 : waitsOk impl_guessOrder.T1.2 impl_guessOrder.B1 = true := by kernel_rfl
theorem impl_guessOrder.calls (k : Nat) (a0_0 : ByteArray) (a0_1 : Int) (a1_0 : ByteArray) (a1_1 : Int) (r : Int) (w : World) (h : impl_guessOrder.f k a0_0 a0_1 a1_0 a1_1 = some r) :
  Calls Try.prog 108 #[.agg #[.string a0_0, .int .i64 a0_1], .agg #[.string a1_0, .int .i64 a1_1]] w fun e w' => e = .returned (.int .i64 r) ∧ ∃ q os', w' = Go.Sort.grow (w.drewN q) os' := by
 have hu36 := Try.underlying36; have HB := am (Below.refl w.heap.size w); have HG := am (impl_guessOrder.Gr.refl w)
 have H : ((cmp_Compare_int.f a0_1 a1_1).bind fun t248 => ((cmp_Compare_string.f a0_0 a1_0).bind fun t249 => ((cmp_Or_int.f k (([t248, t249] : List Int))).bind fun t253 => (some t253)))) = some r := h
 clear h; replace H := bs H; obtain ⟨t248, A30, H⟩ := H; replace H : ((cmp_Compare_string.f a0_0 a1_0).bind fun t249 => ((cmp_Or_int.f k (([t248, t249] : List Int))).bind fun t253 => (some t253))) = some r := H; have A3 := Aside0.mk A30; clear A30; replace H := bs H; obtain ⟨t249, A40, H⟩ := H; replace H : ((cmp_Or_int.f k (([t248, t249] : List Int))).bind fun t253 => (some t253)) = some r := H; have A4 := Aside0.mk A40; clear A40; obtain ⟨y250, hy250⟩ : ∃ y_ : List Int, y_ = (([t248, t249] : List Int)) := ⟨_, rfl⟩
 replace H : ((cmp_Or_int.f k y250).bind fun t253 => (some t253)) = some r := b21_
 have Ny250 := am hy250; clear hy250; replace H := bs H; obtain ⟨t253, A50, H⟩ := H; replace H : (some t253) = some r := H; have A5 := Aside0.mk A50; clear A50; obtain rfl := Option.some.inj H; go_enter Try.func108, Try.ntmps108
 try go_wp2_with (first | ((with_reducible refine gate_dst (N := 2) rfl ?_); refine impl_guessOrder.box HG.out ?hg (N := 2) ?hd (cs := #[.string a0_0, .int .i64 a0_1]) (t := 36) ?hr ?_; (case hd => rfl); (case hg => rfl); (case hr => first | (go_simp; done) | (go_simp; rfl)); intro gb246 hg w6 hbox hb hgr; replace HG := am hgr; clear hgr; have BK246 := am (hbox); have GW246 := am ((b30_ : w.heap.size ≤ gb246)); have GE246 := am ((b30_ : w.heap.size ≤ gb246)); replace HB := am (below_step bel hb); clear hb hbox hg) | ((with_reducible refine gate_dst (N := 3) rfl ?_); refine impl_guessOrder.box HG.out ?hg (N := 3) ?hd (cs := #[.string a1_0, .int .i64 a1_1]) (t := 36) ?hr ?_; (case hd => rfl); (case hg => rfl); (case hr => first | (go_simp; done) | (go_simp; rfl)); intro gb247 hg w7 hbox hb hgr; replace HG := am hgr; clear hgr; have BK247 := am (hbox); have GW247 := am ((by rw [hg]; exact (below_size (bel1 GE246.out)) : w.heap.size ≤ gb247)); have GE247 := am ((by rw [hg]; exact (below_size (bel1 GE246.out)) : w.heap.size ≤ gb247)); replace HB := am (below_step (bel1 GE246.out) hb); have NB246_247 := am ((by rw [hg]; exact Nat.ne_of_lt (blk_lt (g := gb246) (o := .cells #[.string a0_0, .int .i64 a0_1] 36 (0, 0)) (bq BK246.out)) : gb246 ≠ gb247)); have NB247_246 := am ((by rw [hg]; exact Nat.ne_of_gt (blk_lt (g := gb246) (o := .cells #[.string a0_0, .int .i64 a0_1] 36 (0, 0)) (bq BK246.out)) : gb247 ≠ gb246)); replace BK246 := am (blk_below (g := gb246) (o := .cells #[.string a0_0, .int .i64 a0_1] 36 (0, 0)) (bq BK246.out) hb); clear hb hbox hg))
 have n0_ := am (blk_drew BK246.out); have n1_ := am (blk_drew BK247.out); have n2_ := am (below_drew1 HB.out); replace HG := am HG.out.drew; clear BK246; clear BK247; clear HB; have BK246 := n0_; have BK247 := n1_; have HB := n2_; clear n0_ n1_ n2_
 refine st (n := 13) (S := fun w' => w'.cell? ⟨gb246, 0, none⟩ = some (.string a0_0) ∧ w'.cell? ⟨gb246, 1, none⟩ = some (.int .i64 a0_1) ∧ w'.cell? ⟨gb247, 0, none⟩ = some (.string a1_0) ∧ w'.cell? ⟨gb247, 1, none⟩ = some (.int .i64 a1_1)) (ds := []) ⟨(blk_cell BK246.out 0).trans rfl, (blk_cell BK246.out 1).trans rfl, (blk_cell BK247.out 0).trans rfl, (blk_cell BK247.out 1).trans rfl⟩ (fun hHeld => ?_); refine with_tabW impl_guessOrder.tab1 impl_guessOrder.bits1 (fun HT_ HW_ => ?_)
 generalize w7.drew = w8 at BK246 BK247 HB HG hHeld ⊢
 refine pu 0 5 ?_
 refine pu 2 7 ?_
 refine pu 5 10 ?_
 refine pu 7 12 ?_
 refine tk4 1 6 hHeld ?_
 refine tk4 3 8 hHeld ?_
 refine tk4 6 11 hHeld ?_
 refine tk4 8 13 hHeld ?_
 refine on1 4 9 (fun K hK => ?_)
 refine goes_ Try.func136 (by kernel_rfl) rfl #[.int .i64 a0_1, .int .i64 a1_1] (by rfl) rfl rfl mq ?_
 with_reducible refine (cmp_Compare_int.calls a0_1 a1_1 t248 _ A3.out).mono ?_
 rintro e w' ⟨rfl, ⟨nd, rfl⟩⟩
 refine ⟨_, rfl, ?_⟩
 replace HG := am (HG.out.drewN nd)
 refine hK.out _ _ ⟨(blk_cell BK246.out 0).trans rfl, (blk_cell BK246.out 1).trans rfl, (blk_cell BK247.out 0).trans rfl, (blk_cell BK247.out 1).trans rfl⟩ (fun hHeld => ?_)
 clear hK K
 refine norm_ (a' := ?_) ?_ ?_
 rotate_left
 ·show Act.put _ (some 9) _ = _
  simp only [Act.put, List.setIfInBounds_toArray, List.set_cons_zero, List.set_cons_succ, i64_w, i32_w]
  rfl
 refine on1 9 14 (fun K hK => ?_)
 refine goes_ Try.func137 (by kernel_rfl) rfl #[.string a0_0, .string a1_0] (by rfl) rfl rfl mq ?_
 with_reducible refine (cmp_Compare_string.calls a0_0 a1_0 t249 _ A4.out).mono ?_
 rintro e w' ⟨rfl, ⟨nd, rfl⟩⟩
 refine ⟨_, rfl, ?_⟩
 replace HG := am (HG.out.drewN nd)
 refine hK.out _ _ ⟨(blk_cell BK246.out 0).trans rfl, (blk_cell BK246.out 1).trans rfl, (blk_cell BK247.out 0).trans rfl, (blk_cell BK247.out 1).trans rfl⟩ (fun hHeld => ?_)
 clear hK K
 refine norm_ (a' := ?_) ?_ ?_
 rotate_left
 ·show Act.put _ (some 14) _ = _
  simp only [Act.put, List.setIfInBounds_toArray, List.set_cons_zero, List.set_cons_succ, i64_w, i32_w]
  rfl
 refine on1 10 15 (fun K hK => ?_)
 refine impl_guessOrder.lit HG.out (Kd.int .i64) _ 3 ?hg (N := 15) ?hd (xs := ([t248, t249] : List Int)) (inner := [.int .i64 t248, .int .i64 t249]) (ok := fun _ => True) (okp := fun _ => True) ?hr ?hp (fun _ hk => hk) trivial (Below.refl _ _) (Nat.le_refl _) (by simp) ?_; (case hd => rfl); (case hg => rfl); (case hr => first | (go_simp; done) | (go_simp; rfl)); (case hp => exact (Reps.one (show Kd.M (Kd.int .i64) _ _ _ t248 [.int .i64 t248] from rfl) (Reps.one (show Kd.M (Kd.int .i64) _ _ _ t249 [.int .i64 t249] from rfl) (Reps.none _ _))))
 intro v251 w9 ho10 hb hg_ hnew_ hgr
 replace HG := am hgr; clear hgr
 clear hg_ hnew_
 (first | rw [← Ny250.out] at ho10 | (simp only [Int.reduceToNat] at ho10; rw [← Ny250.out] at ho10) | (simp only [Int.toNat_natCast] at ho10; rw [← Ny250.out] at ho10))
 have HO252 := am (Kd.R_lower ho10 (below_size (bel2 GE246.out GE247.out))); replace BK246 := am (blk_below (g := gb246) (o := .cells #[.string a0_0, .int .i64 a0_1] 36 (0, 0)) (bq BK246.out) hb); replace BK247 := am (blk_below (g := gb247) (o := .cells #[.string a1_0, .int .i64 a1_1] 36 (0, 0)) (bq BK247.out) hb); replace HB := am (below_step (bel2 GE246.out GE247.out) hb); clear hb ho10; obtain ⟨Ao11, co11, eo11⟩ := Kd.R_slice HO252.out
 (first | subst eo11 | (injection eo11 with f1_ f2_ f3_; have f4_ := f1_.symm; have f5_ := f3_.symm; clear f1_ f2_ f3_; subst f4_; subst f5_))
 refine hK.out _ _ ⟨(blk_cell BK246.out 0).trans rfl, (blk_cell BK246.out 1).trans rfl, (blk_cell BK247.out 0).trans rfl, (blk_cell BK247.out 1).trans rfl⟩ (fun hHeld => ?_)
 clear hK K
 refine norm_ (a' := ?_) ?_ ?_
 rotate_left
 ·show Act.put _ (some 15) _ = _
  simp only [Act.put, List.setIfInBounds_toArray, List.set_cons_zero, List.set_cons_succ, i64_w, i32_w]
  rfl
 refine on1 11 16 (fun K hK => ?_)
 refine goes_ Try.func135 (by kernel_rfl) rfl #[.slice Ao11 y250.length co11] (by rfl) rfl rfl mq ?_
 with_reducible refine (cmp_Or_int.calls k _ _ y250 t253 _ ?side1 ?side2 A5.out).mono ?_
 (case side1 => exact cq (Kd.R_reads' HO252.out).2.2); (case side2 => exact (Kd.R_reads' HO252.out).2.1)
 rintro e w' ⟨rfl, ⟨nd, rfl⟩⟩
 refine ⟨_, rfl, ?_⟩
 replace HG := am (HG.out.drewN nd)
 refine hK.out _ _ ⟨(blk_cell BK246.out 0).trans rfl, (blk_cell BK246.out 1).trans rfl, (blk_cell BK247.out 0).trans rfl, (blk_cell BK247.out 1).trans rfl⟩ (fun hHeld => ?_)
 clear hK K
 refine norm_ (a' := ?_) ?_ ?_
 rotate_left
 ·show Act.put _ (some 16) _ = _
  simp only [Act.put, List.setIfInBounds_toArray, List.set_cons_zero, List.set_cons_succ, i64_w, i32_w]
  rfl
 refine pu 12 4 ?_
 refine done_ (done_of HT_.out (by kernel_rfl)) ?_
 try go_wp2
 go_ret
 exact ⟨eq_, by first | exact HG.out | (simpa using HG.out)⟩

/-! ### impl_Guess: function 107 -/

instance impl_Guess.inh : Inhabited S36 := ⟨z36⟩
/-- How two guesses are ordered: by distance, then by word. -/
def impl_Guess.cf (x y : S36) : Int := if x.f1 < y.f1 then -1 else if x.f1 > y.f1 then 1 else if Op.bytesLess x.f0.toList y.f0.toList = true then -1 else if Op.bytesLess y.f0.toList x.f0.toList = true then 1 else 0
def impl_Guess.le (x y : S36) : Bool := !(ltOf impl_Guess.cf y x)
theorem impl_Guess.lt_iff (x y : S36) : ltOf impl_Guess.cf x y = true ↔ x.f1 < y.f1 ∨ (x.f1 = y.f1 ∧ x.f0.toList < y.f0.toList) := by
 unfold ltOf impl_Guess.cf
 simp only [bytesLess_eq, decide_eq_true_eq]
 by_cases h1 : x.f1 < y.f1
 ·simp [h1]
 ·by_cases h2 : y.f1 < x.f1
  ·have : ¬ x.f1 = y.f1 := by omega
   simp [h1, h2, this]
  ·have h3 : x.f1 = y.f1 := by omega
   by_cases h4 : x.f0.toList < y.f0.toList
   ·simp [h3, h4]
   ·by_cases h5 : y.f0.toList < x.f0.toList <;> simp [h3, h4, h5]
theorem impl_Guess.lf (x y : S36) : ltOf impl_Guess.cf x y = false ↔ ¬ (x.f1 < y.f1 ∨ (x.f1 = y.f1 ∧ x.f0.toList < y.f0.toList)) := by
 rw [← impl_Guess.lt_iff, Bool.not_eq_true]
theorem impl_Guess.swo : Go.Sort.SWO (ltOf impl_Guess.cf) where
 irrefl x := by
  rw [impl_Guess.lf]
  rintro (h | ⟨_, h⟩)
  ·omega
  ·exact List.lt_irrefl _ h
 trans x y z h1 h2 := by
  rw [impl_Guess.lt_iff] at *
  rcases h1 with h1 | ⟨h1, h3⟩ <;> rcases h2 with h2 | ⟨h2, h4⟩
  ·exact .inl (by omega)
  ·exact .inl (by omega)
  ·exact .inl (by omega)
  ·exact .inr ⟨by omega, List.lt_trans h3 h4⟩
 ntrans x y z h1 h2 := by
  rw [impl_Guess.lf] at *
  rintro (h | ⟨h, h3⟩)
  ·by_cases a : x.f1 < y.f1
   ·exact h1 (.inl a)
   ·exact h2 (.inl (by omega))
  ·have a : x.f1 = y.f1 := by
    by_cases a : x.f1 < y.f1
    ·exact absurd (.inl a) h1
    ·by_cases b : y.f1 < z.f1
     ·exact absurd (.inl b) h2
     ·omega
   have b : ¬ x.f0.toList < y.f0.toList := fun h4 => h1 (.inr ⟨a, h4⟩)
   have c : ¬ y.f0.toList < z.f0.toList := fun h4 => h2 (.inr ⟨by omega, h4⟩)
   exact absurd h3 (List.not_lt.2 (List.le_trans (List.not_lt.1 c) (List.not_lt.1 b)))
theorem impl_Guess.tot (x y : S36) (h1 : ltOf impl_Guess.cf x y = false) (h2 : ltOf impl_Guess.cf y x = false) : x = y := by
 rw [impl_Guess.lf] at *
 have a : x.f1 = y.f1 := by
  by_cases a : x.f1 < y.f1
  ·exact absurd (.inl a) h1
  ·by_cases b : y.f1 < x.f1
   ·exact absurd (.inl b) h2
   ·omega
 have b : x.f0.toList = y.f0.toList := List.le_antisymm (List.not_lt.1 fun h => h2 (.inr ⟨a.symm, h⟩)) (List.not_lt.1 fun h => h1 (.inr ⟨a, h⟩))
 rw [Lib.toList_data, Lib.toList_data] at b
 cases x; cases y
 simp only [S36.mk.injEq]
 exact ⟨ByteArray.ext (Array.toList_inj.1 b), a⟩
theorem impl_Guess.order (x y : S36) : impl_guessOrder.f 3 x.f0 x.f1 y.f0 y.f1 = some (impl_Guess.cf x y) := by
 have n1 : ∀ z : Int, (z != z) = false := fun z => by simp
 have n2 : ∀ z : ByteArray, (z.toList != z.toList) = false := fun z => by simp
 have o : ∀ u v : Int, cmp_Or_int.f 3 [u, v] = some (if u = 0 then v else u) := fun u v => by
  by_cases h : u = 0
  ·by_cases h2 : v = 0
   ·simp [cmp_Or_int.f, cmp_Or_int.l0, rd, h, h2, wrap64]
   ·simp [cmp_Or_int.f, cmp_Or_int.l0, rd, h, h2, wrap64]
  ·simp [cmp_Or_int.f, cmp_Or_int.l0, rd, h, wrap64]
 unfold impl_guessOrder.f cmp_Compare_int.f cmp_Compare_string.f cmp_isNaN_int.f cmp_isNaN_string.f impl_Guess.cf
 simp only [n1, n2, Option.bind_some, Bool.false_eq_true, if_false]
 by_cases h1 : x.f1 < y.f1
 ·by_cases h4 : Op.bytesLess x.f0.toList y.f0.toList = true <;> by_cases h5 : Op.bytesLess y.f0.toList x.f0.toList = true <;> simp [h1, h4, h5, o]
 ·by_cases h2 : x.f1 > y.f1
  ·by_cases h4 : Op.bytesLess x.f0.toList y.f0.toList = true <;> by_cases h5 : Op.bytesLess y.f0.toList x.f0.toList = true <;> simp [h1, h2, h4, h5, o]
  ·by_cases h4 : Op.bytesLess x.f0.toList y.f0.toList = true <;> by_cases h5 : Op.bytesLess y.f0.toList x.f0.toList = true <;> simp [h1, h2, h4, h5, o]
def impl_Guess.enc (x : S36) : List Value := [.string x.f0, .int .i64 x.f1]
def impl_Guess.fl (xs : List S36) : Array Value := Go.Sort.flatK impl_Guess.enc 2 xs.toArray
theorem impl_Guess.fl_size (xs : List S36) : (impl_Guess.fl xs).size = xs.length * 2 := by simp [impl_Guess.fl]
theorem impl_Guess.fl_get (xs : List S36) (j : Nat) (p : S36) (h : xs[j]? = some p) : ((impl_Guess.fl xs).toList.drop (j * 2)).take 2 = impl_Guess.enc p := by
 obtain ⟨hj, rfl⟩ := List.getElem?_eq_some_iff.1 h
 apply List.ext_getElem?
 intro t
 have e : ∀ t, t < 2 → (impl_Guess.fl xs)[j * 2 + t]! = (impl_Guess.enc xs[j])[t]! := fun t ht => by
  unfold impl_Guess.fl
  rw [Go.Sort.get_flatK _ _ _ _ (by simp; omega), show (j * 2 + t) / 2 = j by omega, show (j * 2 + t) % 2 = t by omega]
  simp [hj]
 rcases Nat.lt_or_ge t 2 with ht | ht
 ·rw [List.getElem?_take, if_pos ht, List.getElem?_drop, Array.getElem?_toList]
  have hs : j * 2 + t < (impl_Guess.fl xs).size := by rw [impl_Guess.fl_size]; omega
  have h2 := e t ht
  have h3 : t < (impl_Guess.enc xs[j]).length := by simpa [impl_Guess.enc] using ht
  rw [getElem!_pos (impl_Guess.fl xs) (j * 2 + t) hs, getElem!_pos (impl_Guess.enc xs[j]) t h3] at h2
  rw [Array.getElem?_eq_getElem hs, h2, List.getElem?_eq_getElem h3]
 ·rw [List.getElem?_eq_none (by simp; omega), List.getElem?_eq_none (by simp [impl_Guess.enc]; omega)]
theorem impl_Guess.reps (W : World) (base : Nat) (ok : Nat → Prop) (xs : List S36) : Reps (k36.M W base ok) 2 xs (impl_Guess.fl xs).toList :=
 ⟨by rw [Array.length_toList, impl_Guess.fl_size], fun j p h => by rw [impl_Guess.fl_get xs j p h]; exact k36_mkM W base ok p⟩
theorem impl_Guess.of_reps {W : World} {base : Nat} {ok : Nat → Prop} {xs : List S36} {cs : List Value} (h : Reps (k36.M W base ok) 2 xs cs) : cs = (impl_Guess.fl xs).toList := by
 apply List.ext_getElem?
 intro t
 rcases Nat.lt_or_ge t (xs.length * 2) with ht | ht
 ·have hj : t / 2 < xs.length := by omega
  have e1 := k36_openM (h.2 (t / 2) _ (List.getElem?_eq_getElem hj)); have e2 := impl_Guess.fl_get xs (t / 2) _ (List.getElem?_eq_getElem hj); have e3 := congrArg (fun l : List Value => l[t % 2]?) (e1.trans e2.symm)
  simp only [List.getElem?_take, List.getElem?_drop, if_pos (show t % 2 < 2 by omega), show t / 2 * 2 + t % 2 = t by omega] at e3
  exact e3
 ·rw [List.getElem?_eq_none (by rw [h.1]; exact ht), List.getElem?_eq_none (by rw [Array.length_toList, impl_Guess.fl_size]; exact ht)]
theorem impl_Guess.holds {w : World} {g : Nat} {cur : Array Value} {xs : List S36} (hb : w.heap[g]? = some (.cells cur 36 (0, 0))) (ht : cur.toList.take (xs.length * 2) = (impl_Guess.fl xs).toList) : Go.Sort.HoldsK impl_Guess.enc 2 w g 0 xs.toArray := by
 intro j hj
 have hj' : j < xs.length * 2 := by simpa using hj
 refine ⟨?_, by simp [World.frozen?, hb]⟩
 have h1 : (cur.toList.take (xs.length * 2))[j]? = (impl_Guess.fl xs).toList[j]? := by rw [ht]
 rw [List.getElem?_take_of_lt hj', Array.getElem?_toList, Array.getElem?_toList] at h1
 simp only [World.cell?, hb, Nat.zero_add]
 simp only [Option.isSome_none, Bool.false_eq_true, if_false]
 rw [h1, Array.getElem?_eq_getElem (by rw [impl_Guess.fl_size]; exact hj')]
 show _ = some (id (impl_Guess.fl xs)[j]!)
 rw [getElem!_pos _ _ (by rw [impl_Guess.fl_size]; exact hj')]
 rfl
theorem impl_Guess.take (cur F : Array Value) (h : F.size ≤ cur.size) : (Go.Sort.putCells id 0 F cur).toList.take F.size = F.toList := by
 apply List.ext_getElem?
 intro j
 by_cases hj : j < F.size
 ·rw [List.getElem?_take_of_lt hj, Array.getElem?_toList]
  simp [Go.Sort.putCells, hj, show j < cur.size by omega]
 ·rw [List.getElem?_take_eq_none (by omega), List.getElem?_eq_none (by simp; omega)]
set_option maxHeartbeats 1000000 in
theorem impl_Guess.row {w0 W : World} {base : Nat} {P0 : Nat → Prop} {v : Value} {xs : List S36} (h : Kd.R k36 36 W base P0 v xs) (hB : Below base w0 W) (hbase : base ≤ W.heap.size) (hl : xs.length ≤ 1000000000) :
  Calls Try.prog 107 #[v, .func (.func 108) #[] #[]] W fun e w' => e = .returned (.tuple #[]) ∧ Kd.R k36 36 w' base (fun k_ => P0 k_ ∨ W.heap.size ≤ k_) v (xs.mergeSort impl_Guess.le) ∧ Below base w0 w' ∧ Kept W w' P0 := by
 obtain ⟨hok, inner, ho, hr⟩ := h
 have hr2 : Reps (k36.M W base (fun k => P0 k ∧ some k ≠ v.ownBlock)) 2 xs inner := hr
 have ei := impl_Guess.of_reps hr2; subst ei
 rcases ho.2 with ⟨rfl, h0⟩ | ⟨g, cap, cur, rfl, hb, hg, h1, h2, h3, h4⟩
 ·have e0 : xs = [] := List.length_eq_zero_iff.1 h0
  subst e0
  have := AnyF.slices_SortFunc_none Try.laySortG none 0 (.func (.func 108) #[] #[]) W
  change Calls Try.prog 107 _ _ _ at this
  refine this.mono ?_
  rintro e w' ⟨he, rfl⟩
  refine ⟨he, ?_, hB, Nat.le_refl _, fun _ _ _ => rfl⟩
  rw [List.mergeSort_nil]
  exact Kd.R_nil _ _ _ _ _
 ·have hgl : g < W.heap.size := (Array.getElem?_eq_some_iff.1 hg).1
  have hsz : k36.sz = 2 := rfl
  rw [hsz] at h3 h4
  have hH := impl_Guess.holds hg h4
  have eg : ∀ args w, (callFunc 108 args).run Try.prog w = .ok (.enter 108 args) w := enters_of Try.func108 (by kernel_rfl) rfl
  have hcmp : CmpLays Try.prog 108 #[] impl_Guess.enc 2 impl_Guess.cf g 0 xs.toArray.size W := fun m os dk _ x y => impl_guessOrder.calls 3 x.f0 x.f1 y.f0 y.f1 _ _ (impl_Guess.order x y)
  have := AnyQ.slices_SortFunc_total (α := S36) Try.laySortG 2 Try.isAgg36 Try.sizeOf36 impl_Guess.enc (fun _ => rfl) (fun x v hv => by simp only [impl_Guess.enc, List.mem_cons, List.not_mem_nil, or_false] at hv; rcases hv with rfl | rfl <;> rfl) impl_Guess.cf impl_Guess.swo 108 #[] g 0 cap xs.toArray W eg hcmp hH hgl (by simp; omega) impl_Guess.tot
  change Calls Try.prog 107 #[.slice (some ⟨g, 0, none⟩) xs.length cap, .func (.func 108) #[] #[]] _ _ at this
  refine this.mono ?_
  rintro e w' ⟨he, n, os, rfl⟩
  have hl2 : (xs.mergeSort impl_Guess.le).length = xs.length := List.length_mergeSort xs
  have hhe : (sortWorldK impl_Guess.enc 2 W g 0 n (xs.toArray.toList.mergeSort fun x y => !(ltOf impl_Guess.cf) y x).toArray os).heap[g]? = some (.cells (Go.Sort.putCells id 0 (impl_Guess.fl (xs.mergeSort impl_Guess.le)) cur) 36 (0, 0)) := by
   show (Go.Sort.grow (Go.Sort.putRow id (Go.Sort.ahead W n) g 0 (impl_Guess.fl (xs.mergeSort impl_Guess.le))) os).heap[g]? = _
   rw [Go.Sort.heap_grow_old _ _ (by simpa using hgl)]
   simp [Go.Sort.putRow, Go.Sort.mapBlock, Go.Sort.ahead, Array.getElem?_modify, hg, Go.Sort.onCells]
  have hgr : W.grownBy (sortWorldK impl_Guess.enc 2 W g 0 n (xs.toArray.toList.mergeSort fun x y => !(ltOf impl_Guess.cf) y x).toArray os) (some g) := by
   refine ⟨rfl, rfl, rfl, by simp [sortWorldK, Go.Sort.putRowK], fun k hk hne => ?_⟩
   show (Go.Sort.grow (Go.Sort.putRow id (Go.Sort.ahead W n) g 0 (impl_Guess.fl (xs.mergeSort impl_Guess.le))) os).heap[k]? = _
   rw [Go.Sort.heap_grow_old _ _ (by simpa using hk)]
   have : g ≠ k := fun e => hne (by rw [e])
   simp [Go.Sort.putRow, Go.Sort.mapBlock, Go.Sort.ahead, Array.getElem?_modify, this]
  refine ⟨he, ⟨fun k hk => .inl (hok k hk), (impl_Guess.fl (xs.mergeSort impl_Guess.le)).toList, ⟨?_, .inr ⟨g, cap, _, by rw [hl2], hb, hhe, by rw [hl2]; exact h1, h2, by rw [hsz]; simpa [Go.Sort.putCells] using h3, ?_⟩⟩, impl_Guess.reps _ _ _ _⟩, hB.grown hgr hbase (fun j hj => by cases hj; exact hb), hgr.size, fun i hi hn => hgr.block i hi (fun e => hn (hok i (by rw [e]; rfl)))⟩
  ·rw [Array.length_toList, impl_Guess.fl_size, hsz]
  ·rw [hsz]
   have h5 := impl_Guess.take cur (impl_Guess.fl (xs.mergeSort impl_Guess.le)) (by rw [impl_Guess.fl_size, hl2, h3]; omega)
   rw [impl_Guess.fl_size] at h5
   exact h5
def impl_Guess.f (l0 : List S36) : Option (List S36) := if l0.length ≤ 1000000000 then some (l0.mergeSort impl_Guess.le) else none
-- @FA 107 108
theorem impl_Guess.calls (P0_ : Nat → Prop) (u9000_ : Value) (l0 r1 : List S36) (w0 w : World) (hB : Below w0.heap.size w0 w) (ho0 : Kd.R k36 36 w w0.heap.size P0_ u9000_ l0) (h : impl_Guess.f l0 = some r1) :
  Calls Try.prog 107 #[u9000_, .func (.func 108) #[] #[]] w fun e w' => e = .returned (.tuple #[]) ∧ Kd.R k36 36 w' w0.heap.size (fun k_ => (P0_ k_ ∨ w.heap.size ≤ k_)) u9000_ r1 ∧ Below w0.heap.size w0 w' ∧ Kept w w' (fun k_ => P0_ k_) := by
 unfold impl_Guess.f at h
 split at h
 case isFalse => cases h
 rename_i hsz; obtain rfl := Option.some.inj h
 exact impl_Guess.row ho0 hB hB.size hsz
-- shrunk

/-! ### impl_guesses: function 61 -/
def impl_guesses.l0 : Nat → ByteArray → Int → List (S36) → List ByteArray → Int → Int → Option ((List (S36)))
 | 0, _, _, _, _, _, _ => none
 | k + 1, x1, x2, x7, x11, x12, x13 => if x13 < x12 then (if 0 ≤ x13 then (if x13 < (x11.length : Int) then ((impl_Within.f k (rdOf ByteArray.empty x11 x13) x1 x2).bind fun t261 => (if t261 = true then ((impl_Far.f k (rdOf ByteArray.empty x11 x13) x1).bind fun t262 => (if x7.length < 5864062014805 then (impl_guesses.l0 k x1 x2 (x7 ++ [(⟨rdOf ByteArray.empty x11 x13, t262⟩ : S36)]) x11 x12 (wrap64 (x13 + 1))) else (none))) else (impl_guesses.l0 k x1 x2 x7 x11 x12 (wrap64 (x13 + 1))))) else (none)) else (none)) else ((impl_Guess.f x7).bind fun t249 => ((some (([] : List (S36)) : List (S36))).bind fun y250 => (if 0 ≤ (mn (x7.length : Int) 10) then (if (mn (x7.length : Int) 10) ≤ (x7.length : Int) then ((some (t249.take ((mn (x7.length : Int) 10) : Int).toNat : List (S36))).bind fun y253 => (if y250.length + y253.length < 5864062014805 then (some (y250 ++ y253)) else (none))) else (none)) else (none))))
def impl_guesses.f (k : Nat) (l0 : List ByteArray) (a1 : ByteArray) (a2 : Int) : Option ((List (S36))) := impl_guesses.l0 k a1 a2 (([] : List (S36))) l0 (l0.length : Int) 0
theorem impl_guesses.calls (k : Nat) (A0 : Option Addr) (c0 : Nat) (l0 : List ByteArray) (a1 : ByteArray) (a2 : Int) (r : List (S36)) (w : World) (hr0 : Kd.C Kd.string w A0 l0.length l0) (hc0 : l0.length ≤ c0) (h : impl_guesses.f k l0 a1 a2 = some r) :
  Calls Try.prog 61 #[.slice A0 l0.length c0, .string a1, .int .i64 a2] w fun e w' => ∃ v0_ : Value, e = .returned (v0_) ∧ Kd.R k36 36 w' w.heap.size (fun _ => True) v0_ r ∧ Below w.heap.size w w' := by
 have hu36 := Try.underlying36; have HR0 := am hr0; have HC0 := am hc0; clear hr0 hc0; have HB := am (Below.refl w.heap.size w)
 have H : (impl_guesses.l0 k a1 a2 (([] : List (S36))) l0 (l0.length : Int) 0) = some r := h
 clear h; obtain ⟨y246, hy246⟩ : ∃ y_ : List (S36), y_ = (([] : List (S36))) := ⟨_, rfl⟩
 replace H : (impl_guesses.l0 k a1 a2 y246 l0 (l0.length : Int) 0) = some r := by first | (rw [hy246]; with_reducible exact H) | (have H2_ := bm H; rw [hy246]; with_reducible exact H2_) | (with_reducible exact bm H) | with_reducible exact H | (rw [hy246]; exact H) | exact H
 have Ny246 := am hy246; clear hy246
 have H' := am H
 clear H; go_enter Try.func61, Try.ntmps61
 go_wp2_with (first | ((with_reducible refine gate_dst (N := 10) rfl ?_); refine Kd.R_lit k36 _ 36 ?hg (N := 10) ?hd (xs := ([] : List (S36))) (inner := []) (ok := fun _ => True) (okp := fun _ => True) ?hr ?hp (fun _ hk => hk) trivial (Below.refl _ _) (Nat.le_refl _) (by simp) ?_; (case hd => rfl); (case hg => rfl); (case hr => first | (go_simp; done) | (go_simp; rfl)); (case hp => exact (Reps.none _ _)); intro v247 w4 ho5 hb hg_ hnew_; clear hg_ hnew_; (first | rw [← Ny246.out] at ho5 | (simp only [Int.reduceToNat] at ho5; rw [← Ny246.out] at ho5) | (simp only [Int.toNat_natCast] at ho5; rw [← Ny246.out] at ho5)); have HO248 := am (Kd.R_lower ho5 (below_size bel)); replace HB := am (below_step bel hb); clear hb ho5))
 go_loopg [7, 13] k (fun kq v7 v13 w' => ∃ (x7_1 : List (S36)) (x13_1 : Int), v13 = .int .i64 x13_1 ∧ Aside0 (impl_guesses.l0 kq a1 a2 x7_1 l0 (l0.length : Int) x13_1 = some r) ∧ Aside0 (kq ≤ k) ∧ Aside0 (Kd.R k36 36 w' w.heap.size (fun _ => True) v7 x7_1) ∧ Aside0 (Below w.heap.size w w'))
 case atStart => exact ⟨(y246), (0), sq, H', ⟨Nat.le_refl _⟩, ⟨rq HO248.out⟩, ⟨bel⟩⟩
 case round =>
  clear H'; (try clear p2); obtain ⟨x7_1, x13_1, rfl, HA, HK1, HO_7, HB⟩ := hrel
  cases gk with
  | zero => exact absurd HA.out (by simp [impl_guesses.l0])
  | succ k1 =>
   have H := HA.out; clear HA
   simp only [impl_guesses.l0] at H
   by_cases c6 : x13_1 < (l0.length : Int)
   ·rw [if_pos c6] at H; have c6b0 := decide_eq_true c6; clear c6
    replace H := it H; obtain ⟨c7b0, H⟩ := H
    replace H := it H; obtain ⟨c8b0, H⟩ := H; replace H := bs H; obtain ⟨t261, A90, H⟩ := H; replace H : (if t261 = true then ((impl_Far.f k1 (rdOf ByteArray.empty l0 x13_1) a1).bind fun t262 => (if x7_1.length < 5864062014805 then (impl_guesses.l0 k1 a1 a2 (x7_1 ++ [(⟨rdOf ByteArray.empty l0 x13_1, t262⟩ : S36)]) l0 (l0.length : Int) (wrap64 (x13_1 + 1))) else (none))) else (impl_guesses.l0 k1 a1 a2 x7_1 l0 (l0.length : Int) (wrap64 (x13_1 + 1)))) = some r := H; have A9 := Aside0.mk A90; clear A90
    by_cases c10 : t261 = true
    ·subst c10
     have H1 : ((impl_Far.f k1 (rdOf ByteArray.empty l0 x13_1) a1).bind fun t262 => (if x7_1.length < 5864062014805 then (impl_guesses.l0 k1 a1 a2 (x7_1 ++ [(⟨rdOf ByteArray.empty l0 x13_1, t262⟩ : S36)]) l0 (l0.length : Int) (wrap64 (x13_1 + 1))) else (none))) = some r := b16_
     replace H := H1; clear H1
     replace H := bs H; obtain ⟨t262, A110, H⟩ := H; replace H : (if x7_1.length < 5864062014805 then (impl_guesses.l0 k1 a1 a2 (x7_1 ++ [(⟨rdOf ByteArray.empty l0 x13_1, t262⟩ : S36)]) l0 (l0.length : Int) (wrap64 (x13_1 + 1))) else (none)) = some r := H; have A11 := Aside0.mk A110; clear A110
     replace H := ip H; obtain ⟨c12, H⟩ := H; have LMc12 := Aside0.mk c12; clear c12; obtain ⟨y263, hy263⟩ : ∃ y_ : List (S36), y_ = (x7_1 ++ [(⟨rdOf ByteArray.empty l0 x13_1, t262⟩ : S36)]) := ⟨_, rfl⟩
     replace H : (impl_guesses.l0 k1 a1 a2 y263 l0 (l0.length : Int) (wrap64 (x13_1 + 1))) = some r := by first | (rw [hy263]; with_reducible exact H) | (have H2_ := bm H; rw [hy263]; with_reducible exact H2_) | (with_reducible exact bm H) | with_reducible exact H | (rw [hy263]; exact H) | exact H
     have Ny263 := am hy263; clear hy263
     have H' := am H
     clear H
     have p260 : 0 ≤ (x13_1 : Int) := of_decide_eq_true ad
     have q260 : x13_1 < (l0.length : Int) := of_decide_eq_true ad
     obtain ⟨ad260, e260, hx260_0⟩ := Kd.at_string HR0.out x13_1 p260 q260
     cases e260
     replace hx260_0 := kp HB.out hx260_0; replace p260 := eq_true p260; replace q260 := eq_true q260
     go_wp2_with (first | ((with_reducible refine gate_callee (f := 106) rfl ?_); refine goesL_ (some 20) rfl rfl Try.func106 (by kernel_rfl) rfl #[.string (rdOf ByteArray.empty l0 x13_1), .string a1, .int .i64 a2] rfl mq ?_; (with_reducible refine (impl_Within.calls k1 (rdOf ByteArray.empty l0 x13_1) a1 a2 true _ A9.out).mono ?_); rintro e w13 ⟨rfl, hb⟩; refine ⟨_, rfl, ?_⟩; replace HO_7 := am (Kd.R_below (rq HO_7.out) hb); replace HB := am (below_step bel hb); (try clear hb); (try clear hb2); (try clear hk); (try clear hi)) | ((with_reducible refine gate_callee (f := 23) rfl ?_); refine goesL_ (some 25) rfl rfl Try.func23 (by kernel_rfl) rfl #[.string (rdOf ByteArray.empty l0 x13_1), .string a1] rfl mq ?_; (with_reducible refine (impl_Far.calls k1 (rdOf ByteArray.empty l0 x13_1) a1 t262 _ A11.out).mono ?_); rintro e w14 ⟨rfl, hb⟩; refine ⟨_, rfl, ?_⟩; replace HO_7 := am (Kd.R_below (rq HO_7.out) hb); replace HB := am (below_step bel hb); (try clear hb); (try clear hb2); (try clear hk); (try clear hi)) | ((with_reducible refine gate_builtin (b := .append) (xs := #[.tmp 21, .tmp 27]) rfl ?_); at_builtin; refine Kd.R_append k36 (w0 := w) w.heap.size rfl (.tmp 21) (.tmp 27) 24 36 (.agg #[(.string ⟨#[]⟩), (.int .i64 0)]) 24 rfl Try.underlying24 info36 rfl (by decide) (by omega) u7 x7_1 (⟨rdOf ByteArray.empty l0 x13_1, t262⟩ : S36) [.string (rdOf ByteArray.empty l0 x13_1), .int .i64 t262] (fun _ => True) (fun _ => False) rfl rfl ?aP (fun _ hk => hk.elim) ?aF ?aO ?aB ?aS ?aL ?_; (case aP => exact k36_mkM _ _ _ (⟨rdOf ByteArray.empty l0 x13_1, t262⟩ : S36)); (case aB => exact bel); (case aF => exact (fun _ _ => trivial)); (case aO => exact (rq HO_7.out)); (case aS => exact (below_size bel)); (case aL => have := LMc12.out; omega); intro v264 w15 ho hb hg hat; rw [← Ny263.out] at ho; replace HB := am (hb); have HO265 := am (ho); clear HO_7; clear ho hb hg hat))
     go_roundg k1
     case measure => have := HK1.out; omega
     case rel => exact ⟨(y263), (wrap64 (x13_1 + 1)), sq, H', ⟨b22_⟩, ⟨rq HO265.out⟩, ⟨bel⟩⟩
    replace c10 := Bool.eq_false_iff.mpr c10; subst c10
    have H1 : (impl_guesses.l0 k1 a1 a2 x7_1 l0 (l0.length : Int) (wrap64 (x13_1 + 1))) = some r := b5_
    replace H := H1; clear H1
    have H' := am H
    clear H
    have p260 : 0 ≤ (x13_1 : Int) := of_decide_eq_true ad
    have q260 : x13_1 < (l0.length : Int) := of_decide_eq_true ad
    obtain ⟨ad260, e260, hx260_0⟩ := Kd.at_string HR0.out x13_1 p260 q260
    cases e260
    replace hx260_0 := kp HB.out hx260_0; replace p260 := eq_true p260; replace q260 := eq_true q260
    go_wp2_with (first | ((with_reducible refine gate_callee (f := 106) rfl ?_); refine goesL_ (some 20) rfl rfl Try.func106 (by kernel_rfl) rfl #[.string (rdOf ByteArray.empty l0 x13_1), .string a1, .int .i64 a2] rfl mq ?_; (with_reducible refine (impl_Within.calls k1 (rdOf ByteArray.empty l0 x13_1) a1 a2 false _ A9.out).mono ?_); rintro e w16 ⟨rfl, hb⟩; refine ⟨_, rfl, ?_⟩; replace HO_7 := am (Kd.R_below (rq HO_7.out) hb); replace HB := am (below_step bel hb); (try clear hb); (try clear hb2); (try clear hk); (try clear hi)))
    go_roundg k1
    case measure => have := HK1.out; omega
    case rel => exact ⟨(x7_1), (wrap64 (x13_1 + 1)), sq, H', ⟨b22_⟩, ⟨rq HO_7.out⟩, ⟨bel⟩⟩
   rw [if_neg c6] at H; have c6b0 := decide_eq_false c6; clear c6; replace H := bs H; obtain ⟨t249, A170, H⟩ := H; replace H : ((some (([] : List (S36)) : List (S36))).bind fun y250 => (if 0 ≤ (mn (x7_1.length : Int) 10) then (if (mn (x7_1.length : Int) 10) ≤ (x7_1.length : Int) then ((some (t249.take ((mn (x7_1.length : Int) 10) : Int).toNat : List (S36))).bind fun y253 => (if y250.length + y253.length < 5864062014805 then (some (y250 ++ y253)) else (none))) else (none)) else (none))) = some r := H; have A17 := Aside0.mk A170; clear A170; obtain ⟨y250, hy250⟩ : ∃ y_ : List (S36), y_ = (([] : List (S36))) := ⟨_, rfl⟩
   replace H : (if 0 ≤ (mn (x7_1.length : Int) 10) then (if (mn (x7_1.length : Int) 10) ≤ (x7_1.length : Int) then ((some (t249.take ((mn (x7_1.length : Int) 10) : Int).toNat : List (S36))).bind fun y253 => (if y250.length + y253.length < 5864062014805 then (some (y250 ++ y253)) else (none))) else (none)) else (none)) = some r := b21_
   have Ny250 := am hy250; clear hy250; obtain ⟨ji18, hji18⟩ : ∃ j_ : Int, (mn (x7_1.length : Int) 10) = j_ := ⟨_, rfl⟩
   replace H : (if 0 ≤ (ji18) then (if (ji18) ≤ (x7_1.length : Int) then ((some (t249.take ((ji18) : Int).toNat : List (S36))).bind fun y253 => (if y250.length + y253.length < 5864062014805 then (some (y250 ++ y253)) else (none))) else (none)) else (none)) = some r := by first | (rw [hji18] at H; exact H) | (simp only [hji18] at H ⊢; exact H)
   (try rw [hji18] at A17)
   have hji18_ : (if 10 < (x7_1.length : Int) then 10 else (x7_1.length : Int)) = ji18 := hji18
   replace H := ip H; obtain ⟨c19, H⟩ := H; have c19b0 := eq_true c19
   have c19b1 : decide (0 ≤ (ji18)) = true := decide_eq_true c19
   clear c19
   replace H := ip H; obtain ⟨c20, H⟩ := H; have c20b0 := eq_true c20
   have c20b1 : decide ((ji18) ≤ (x7_1.length : Int)) = true := decide_eq_true c20
   clear c20; obtain ⟨y253, hy253⟩ : ∃ y_ : List (S36), y_ = (t249.take ((ji18) : Int).toNat) := ⟨_, rfl⟩
   replace H : (if y250.length + y253.length < 5864062014805 then (some (y250 ++ y253)) else (none)) = some r := by first | (rw [hy253]; with_reducible exact H) | (have H2_ := bm H; rw [hy253]; with_reducible exact H2_) | (with_reducible exact bm H) | with_reducible exact H | (rw [hy253]; exact H) | exact H
   have Ny253 := am hy253; clear hy253
   replace H := ip H; obtain ⟨c21, H⟩ := H; have LMc21 := Aside0.mk c21; clear c21; obtain ⟨y257, hy257⟩ : ∃ y_ : List (S36), y_ = (y250 ++ y253) := ⟨_, rfl⟩
   replace H : (some y257) = some r := by first | (rw [hy257]; with_reducible exact H) | (have H2_ := bm H; rw [hy257]; with_reducible exact H2_) | (with_reducible exact bm H) | with_reducible exact H | (rw [hy257]; exact H) | exact H
   have Ny257 := am hy257; clear hy257; obtain rfl := Option.some.inj H; obtain ⟨Ao22, co22, eo22⟩ := Kd.R_slice HO_7.out; subst eo22
   go_wp2_with (first | ((with_reducible refine gate_callee (f := 107) rfl ?_); refine goesL_ (some 31) rfl rfl Try.func107 (by kernel_rfl) rfl #[.slice Ao22 x7_1.length co22, .func (.func 108) #[] #[]] rfl mq ?_; (with_reducible refine (impl_Guess.calls (fun k_ => some k_ = (.slice Ao22 x7_1.length co22 : Value).ownBlock) (.slice Ao22 x7_1.length co22) x7_1 t249 w _ ?side1 ?side2 A17.out).mono ?_); (case side1 => repeat (first | (with_reducible first | exact HB.out | apply below_alloc | apply pw_below_drewN | apply below_drew1) | exact HB.out)); (case side2 => exact Kd.R_tight rfl HO_7.out); rintro e w23 ⟨rfl, hy0, hb, hkp⟩; refine ⟨_, rfl, ?_⟩; replace HO_7 := am (Kd.R_reok rfl hy0 (fun k_ e_ => HO_7.out.1 k_ e_)); replace HB := am (hb); (try clear hb); (try clear hkp); (try clear hy0)) | ((with_reducible refine gate_dst (N := 32) rfl ?_); refine Kd.R_lit k36 _ 36 ?hg (N := 32) ?hd (xs := ([] : List (S36))) (inner := []) (ok := fun _ => True) (okp := fun _ => True) ?hr ?hp (fun _ hk => hk) trivial (Below.refl _ _) (Nat.le_refl _) (by simp) ?_; (case hd => rfl); (case hg => rfl); (case hr => first | (go_simp; done) | (go_simp; rfl)); (case hp => exact (Reps.none _ _)); intro v251 w24 ho25 hb hg_ hnew_; clear hg_ hnew_; (first | rw [← Ny250.out] at ho25 | (simp only [Int.reduceToNat] at ho25; rw [← Ny250.out] at ho25) | (simp only [Int.toNat_natCast] at ho25; rw [← Ny250.out] at ho25)); have HO252 := am (Kd.R_lower (Kd.R_new' ho25 (Kd.R_lt (rq HO_7.out))) (below_size bel)); replace HO_7 := am (Kd.R_elder' (rq HO_7.out) (Kd.R_base ho25) hb); replace HB := am (below_step bel hb); clear hb ho25; have hlx26 := (Kd.R_reads' HO_7.out).1; have q26 : ((ji18) : Int) ≤ ((x7_1.length : Int) : Int) := of_decide_eq_true ad; obtain ⟨i026, hi026, _, hsz26, _⟩ := info_parts info36; have hroom26 : x7_1.length ≤ co22 := (Kd.R_reads' HO_7.out).2.1; have hroomc26 : t249.length ≤ co22 := (by rw [← hlx26]; exact hroom26); have hC26 : Kd.C k36 _ Ao22 t249.length t249 := (Kd.R_reads' HO_7.out).2.2; have hcut26 := cut_to (P := Try.prog) 24 36 .i64 Try.underlying24 hi026 Ao22 x7_1.length co22 (ji18) (of_decide_eq_true ad) q26 hroom26; have hr26 := Kd.C_take (m := ((ji18) : Int).toNat) hC26 (by omega); have hy26 : y253.length = ((ji18) : Int).toNat := (by rw [Ny253.out, List.length_take]; omega); rw [← Ny253.out] at hr26; rw [← hy26] at hcut26; have HR256 := am hr26; have HC256 := am (show y253.length ≤ co22 from by omega); clear hr26 hC26 hroom26 hi026 hsz26 hroomc26; have KY26 := am hy26; clear hy26; have KE26 := am hlx26; have KL26 := am (show ((ji18) : Int).toNat ≤ t249.length from by omega); clear hlx26; replace q26 := eq_true q26) | ((with_reducible refine gate_builtin (b := .append) (xs := #[.tmp 32, .tmp 37]) rfl ?_); at_builtin; refine Kd.R_append_rows k36 (w0 := w) w.heap.size rfl (.tmp 32) (.tmp 37) 24 36 (.agg #[(.string ⟨#[]⟩), (.int .i64 0)]) 24 rfl Try.underlying24 info36 rfl (by decide) (by omega) v251 y250 y253 _ _ _ (fun k_ => some k_ ≠ (.slice Ao22 x7_1.length co22 : Value).ownBlock) (fun _ => False) rfl rfl ?aO ?aR (fun _ _ h => h) (fun _ h => h.elim) ?aF ?aB ?aS ?aL ?_; (case aR => repeat (first | exact (by repeat (first | (with_reducible exact HR256.out) | (with_reducible refine Kd.C_alloc ?_ _) | (with_reducible refine Kd.C_drewN ?_ _) | (with_reducible refine Kd.C_drew ?_) | exact HR256.out)) | (with_reducible refine Kd.C_alloc ?_ _) | (with_reducible refine Kd.C_drewN ?_ _) | (with_reducible refine Kd.C_drew ?_))); (case aB => exact bel); (case aF => exact (fun k_ hk => Kd.fresh' (Kd.R_lt (rq HO_7.out)) k_ hk)); (case aO => exact (rq (Kd.R_mono HO252.out (fun _ hk => hk.2)))); (case aS => exact (below_size bel)); (case aL => have := LMc21.out; omega); intro v258 w27 ho hb hg hat; rw [← Ny257.out] at ho; replace HB := am (hb); replace HR256 := am ((show Kd.C k36 w27 Ao22 y253.length y253 from by rw [Ny253.out]; exact Kd.C_take (m := ((ji18) : Int).toNat) ((Kd.R_reads' (Kd.R_after (ok := (fun _ => True)) (rq HO_7.out) hg hat)).2.2) KL26.out)); replace HO_7 := am (Kd.R_after (ok := (fun _ => True)) (rq HO_7.out) hg hat); have HO259 := am (ho); clear HO252; clear ho hb hg hat))
   go_ret
   exact ⟨_, by first | rfl | (simp [errW_none, errW_some] <;> rfl) | (simp only [← hji18]; first | rfl | (simp [errW_none, errW_some] <;> rfl)) | (simp [*, errW_none, errW_some] <;> rfl), by (with_reducible repeat (first | apply Kd.R_alloc | apply Kd.R_drewN | apply Kd.R_drew)); exact Kd.R_mono HO259.out (fun _ hk => trivial), bel⟩

/-! ### impl_Guesses: function 14 -/
def impl_Guesses.f (k : Nat) (l0 : List ByteArray) (a1 : ByteArray) (a2 : Int) : Option ((List (S36))) := (impl_wordsOk.f k l0 300).bind fun t266 => (if t266 = true then ((impl_WordOk.f k a1).bind fun t267 => (if t267 = true then ((impl_guesses.f k l0 a1 a2).bind fun t268 => (some t268)) else (some (([] : List (S36)))))) else (some (([] : List (S36)))))
theorem impl_Guesses.calls (k : Nat) (A0 : Option Addr) (c0 : Nat) (l0 : List ByteArray) (a1 : ByteArray) (a2 : Int) (r : List (S36)) (w : World) (hr0 : Kd.C Kd.string w A0 l0.length l0) (hc0 : l0.length ≤ c0) (h : impl_Guesses.f k l0 a1 a2 = some r) :
  Calls Try.prog 14 #[.slice A0 l0.length c0, .string a1, .int .i64 a2] w fun e w' => ∃ v0_ : Value, e = .returned (v0_) ∧ Kd.R k36 36 w' w.heap.size (fun _ => True) v0_ r ∧ Below w.heap.size w w' := by
 have HR0 := am hr0; have HC0 := am hc0; clear hr0 hc0; have HB := am (Below.refl w.heap.size w)
 have H : ((impl_wordsOk.f k l0 300).bind fun t266 => (if t266 = true then ((impl_WordOk.f k a1).bind fun t267 => (if t267 = true then ((impl_guesses.f k l0 a1 a2).bind fun t268 => (some t268)) else (some (([] : List (S36)))))) else (some (([] : List (S36)))))) = some r := h
 clear h; replace H := bs H; obtain ⟨t266, A40, H⟩ := H; replace H : (if t266 = true then ((impl_WordOk.f k a1).bind fun t267 => (if t267 = true then ((impl_guesses.f k l0 a1 a2).bind fun t268 => (some t268)) else (some (([] : List (S36)))))) else (some (([] : List (S36))))) = some r := H; have A4 := Aside0.mk A40; clear A40
 by_cases c5 : t266 = true
 ·subst c5
  have H1 : ((impl_WordOk.f k a1).bind fun t267 => (if t267 = true then ((impl_guesses.f k l0 a1 a2).bind fun t268 => (some t268)) else (some (([] : List (S36)))))) = some r := b16_
  replace H := H1; clear H1
  replace H := bs H; obtain ⟨t267, A60, H⟩ := H; replace H : (if t267 = true then ((impl_guesses.f k l0 a1 a2).bind fun t268 => (some t268)) else (some (([] : List (S36))))) = some r := H; have A6 := Aside0.mk A60; clear A60
  by_cases c7 : t267 = true
  ·subst c7
   have H1 : ((impl_guesses.f k l0 a1 a2).bind fun t268 => (some t268)) = some r := b16_
   replace H := H1; clear H1
   replace H := bs H; obtain ⟨t268, A80, H⟩ := H; replace H : (some t268) = some r := H; have A8 := Aside0.mk A80; clear A80; obtain rfl := Option.some.inj H; go_enter Try.func14, Try.ntmps14
   go_wp2_with (first | ((with_reducible refine gate_callee (f := 59) rfl ?_); refine goesL_ (some 8) rfl rfl Try.func59 (by kernel_rfl) rfl #[.slice A0 l0.length c0, .int .i64 300] rfl mq ?_; (with_reducible refine (impl_wordsOk.calls k _ _ l0 300 true _ ?side1 ?side2 A4.out).mono ?_); (case side1 => repeat (first | exact HR0.out | (with_reducible refine Kd.C_alloc ?_ _) | (with_reducible refine Kd.C_drewN ?_ _) | (with_reducible refine Kd.C_drew ?_))); (case side2 => exact HC0.out); rintro e w' ⟨rfl, ⟨nd, rfl⟩⟩; refine ⟨_, rfl, ?_⟩) | (go_at_call 60; (with_reducible refine (impl_WordOk.calls k a1 true _ A6.out).mono ?_); rintro e w' ⟨rfl, ⟨nd, rfl⟩⟩) | ((with_reducible refine gate_callee (f := 61) rfl ?_); refine goesL_ (some 19) rfl rfl Try.func61 (by kernel_rfl) rfl #[.slice A0 l0.length c0, .string a1, .int .i64 a2] rfl mq ?_; (with_reducible refine (impl_guesses.calls k _ _ l0 a1 a2 t268 _ ?side1 ?side2 A8.out).mono ?_); (case side1 => repeat (first | exact HR0.out | (with_reducible refine Kd.C_alloc ?_ _) | (with_reducible refine Kd.C_drewN ?_ _) | (with_reducible refine Kd.C_drew ?_))); (case side2 => exact HC0.out); rintro e w9 ⟨v269, rfl, ho0, hb⟩; refine ⟨_, rfl, ?_⟩; have HO270 := am (Kd.R_lower ho0 (below_size bel)); replace HB := am (below_step bel hb); (try clear hb); (try clear hb2); (try clear hk); (try clear hi); (try clear ho0)))
   go_ret
   exact ⟨_, eq_, by (with_reducible repeat (first | apply Kd.R_alloc | apply Kd.R_drewN | apply Kd.R_drew)); exact HO270.out, bel⟩
  replace c7 := Bool.eq_false_iff.mpr c7; subst c7
  have H1 : (some (([] : List (S36)))) = some r := b5_
  replace H := H1; clear H1
  obtain ⟨y271, hy271⟩ : ∃ y_ : List (S36), y_ = (([] : List (S36))) := ⟨_, rfl⟩
  replace H : (some y271) = some r := by first | (rw [hy271]; with_reducible exact H) | (have H2_ := bm H; rw [hy271]; with_reducible exact H2_) | (with_reducible exact bm H) | with_reducible exact H | (rw [hy271]; exact H) | exact H
  have Ny271 := am hy271; clear hy271; obtain rfl := Option.some.inj H; go_enter Try.func14, Try.ntmps14
  go_wp2_with (first | ((with_reducible refine gate_callee (f := 59) rfl ?_); refine goesL_ (some 8) rfl rfl Try.func59 (by kernel_rfl) rfl #[.slice A0 l0.length c0, .int .i64 300] rfl mq ?_; (with_reducible refine (impl_wordsOk.calls k _ _ l0 300 true _ ?side1 ?side2 A4.out).mono ?_); (case side1 => repeat (first | exact HR0.out | (with_reducible refine Kd.C_alloc ?_ _) | (with_reducible refine Kd.C_drewN ?_ _) | (with_reducible refine Kd.C_drew ?_))); (case side2 => exact HC0.out); rintro e w' ⟨rfl, ⟨nd, rfl⟩⟩; refine ⟨_, rfl, ?_⟩) | (go_at_call 60; (with_reducible refine (impl_WordOk.calls k a1 false _ A6.out).mono ?_); rintro e w' ⟨rfl, ⟨nd, rfl⟩⟩) | ((with_reducible refine gate_dst (N := 15) rfl ?_); refine Kd.R_lit k36 _ 36 ?hg (N := 15) ?hd (xs := ([] : List (S36))) (inner := []) (ok := fun _ => True) (okp := fun _ => True) ?hr ?hp (fun _ hk => hk) trivial (Below.refl _ _) (Nat.le_refl _) (by simp) ?_; (case hd => rfl); (case hg => rfl); (case hr => first | (go_simp; done) | (go_simp; rfl)); (case hp => exact (Reps.none _ _)); intro v272 w10 ho11 hb hg_ hnew_; clear hg_ hnew_; (first | rw [← Ny271.out] at ho11 | (simp only [Int.reduceToNat] at ho11; rw [← Ny271.out] at ho11) | (simp only [Int.toNat_natCast] at ho11; rw [← Ny271.out] at ho11)); have HO273 := am (Kd.R_lower ho11 (below_size bel)); replace HB := am (below_step bel hb); clear hb ho11))
  go_ret
  exact ⟨_, eq_, by (with_reducible repeat (first | apply Kd.R_alloc | apply Kd.R_drewN | apply Kd.R_drew)); exact HO273.out, bel⟩
 replace c5 := Bool.eq_false_iff.mpr c5; subst c5
 have H1 : (some (([] : List (S36)))) = some r := b5_
 replace H := H1; clear H1
 obtain ⟨y274, hy274⟩ : ∃ y_ : List (S36), y_ = (([] : List (S36))) := ⟨_, rfl⟩
 replace H : (some y274) = some r := by first | (rw [hy274]; with_reducible exact H) | (have H2_ := bm H; rw [hy274]; with_reducible exact H2_) | (with_reducible exact bm H) | with_reducible exact H | (rw [hy274]; exact H) | exact H
 have Ny274 := am hy274; clear hy274; obtain rfl := Option.some.inj H; go_enter Try.func14, Try.ntmps14
 go_wp2_with (first | ((with_reducible refine gate_callee (f := 59) rfl ?_); refine goesL_ (some 8) rfl rfl Try.func59 (by kernel_rfl) rfl #[.slice A0 l0.length c0, .int .i64 300] rfl mq ?_; (with_reducible refine (impl_wordsOk.calls k _ _ l0 300 false _ ?side1 ?side2 A4.out).mono ?_); (case side1 => repeat (first | exact HR0.out | (with_reducible refine Kd.C_alloc ?_ _) | (with_reducible refine Kd.C_drewN ?_ _) | (with_reducible refine Kd.C_drew ?_))); (case side2 => exact HC0.out); rintro e w' ⟨rfl, ⟨nd, rfl⟩⟩; refine ⟨_, rfl, ?_⟩) | ((with_reducible refine gate_dst (N := 15) rfl ?_); refine Kd.R_lit k36 _ 36 ?hg (N := 15) ?hd (xs := ([] : List (S36))) (inner := []) (ok := fun _ => True) (okp := fun _ => True) ?hr ?hp (fun _ hk => hk) trivial (Below.refl _ _) (Nat.le_refl _) (by simp) ?_; (case hd => rfl); (case hg => rfl); (case hr => first | (go_simp; done) | (go_simp; rfl)); (case hp => exact (Reps.none _ _)); intro v275 w12 ho13 hb hg_ hnew_; clear hg_ hnew_; (first | rw [← Ny274.out] at ho13 | (simp only [Int.reduceToNat] at ho13; rw [← Ny274.out] at ho13) | (simp only [Int.toNat_natCast] at ho13; rw [← Ny274.out] at ho13)); have HO276 := am (Kd.R_lower ho13 (below_size bel)); replace HB := am (below_step bel hb); clear hb ho13))
 go_ret
 exact ⟨_, eq_, by (with_reducible repeat (first | apply Kd.R_alloc | apply Kd.R_drewN | apply Kd.R_drew)); exact HO276.out, bel⟩

/-! ### laws_eqGuess: function 62 -/
def laws_eqGuess.f (a0_0 : ByteArray) (a0_1 : Int) (a1_0 : ByteArray) (a1_1 : Int) : Option (Bool) := if a0_0.toList = a1_0.toList then (if a0_1 = a1_1 then (some true) else (some false)) else (some false)
theorem laws_eqGuess.calls (a0_0 : ByteArray) (a0_1 : Int) (a1_0 : ByteArray) (a1_1 : Int) (r : Bool) (w : World) (h : laws_eqGuess.f a0_0 a0_1 a1_0 a1_1 = some r) :
  Calls Try.prog 62 #[.agg #[.string a0_0, .int .i64 a0_1], .agg #[.string a1_0, .int .i64 a1_1]] w fun e w' => e = .returned (.bool r) ∧ Below w.heap.size w w' := by
 have hu36 := Try.underlying36; have HB := am (Below.refl w.heap.size w)
 have H : (if a0_0.toList = a1_0.toList then (if a0_1 = a1_1 then (some true) else (some false)) else (some false)) = some r := h
 clear h
 by_cases c3 : a0_0.toList = a1_0.toList
 ·rw [if_pos c3] at H
  have c3b0 : (a0_0.toList == a1_0.toList) = true := beq_iff_eq.mpr c3
  have c3b1 : (a0_0.toList != a1_0.toList) = false := bne_eq_false_iff_eq.mpr c3
  clear c3
  by_cases c4 : a0_1 = a1_1
  ·rw [if_pos c4] at H
   have c4b0 : (a0_1 == a1_1) = true := beq_iff_eq.mpr c4
   have c4b1 : (a0_1 != a1_1) = false := bne_eq_false_iff_eq.mpr c4
   clear c4; obtain rfl := Option.some.inj H; go_enter Try.func62, Try.ntmps62
   go_wp2_with (first | ((with_reducible refine gate_dst (N := 2) rfl ?_); refine bx 2 (cs := #[.string a0_0, .int .i64 a0_1]) (t := 36) ?_; intro gb277 hg w5 hbox hb; have BK277 := am (hbox); have GW277 := am ((b30_ : w.heap.size ≤ gb277)); have GE277 := am ((b30_ : w.heap.size ≤ gb277)); replace HB := am (below_step bel hb); clear hb hbox hg) | ((with_reducible refine gate_dst (N := 3) rfl ?_); refine bx 3 (cs := #[.string a1_0, .int .i64 a1_1]) (t := 36) ?_; intro gb278 hg w6 hbox hb; have BK278 := am (hbox); have GW278 := am ((b35_ : w.heap.size ≤ gb278)); have GE278 := am ((b35_ : w.heap.size ≤ gb278)); replace HB := am (below_step (bel1 GE277.out) hb); have NB277_278 := am ((b23_ : gb277 ≠ gb278)); have NB278_277 := am ((b24_ : gb278 ≠ gb277)); replace BK277 := am (blk_below (g := gb277) (o := .cells #[.string a0_0, .int .i64 a0_1] 36 (0, 0)) (bq BK277.out) hb); clear hb hbox hg; have hnb7 := NB277_278.out; have hnc7 := NB278_277.out; have hcz8_0 := bc BK277.out 0; have hcz8_1 := bc BK277.out 1; have hfz8_0 := bf BK277.out 0; have hfz8_1 := bf BK277.out 1; have hcz9_0 := bc BK278.out 0; have hcz9_1 := bc BK278.out 1; have hfz9_0 := bf BK278.out 0; have hfz9_1 := bf BK278.out 1))
   go_ret
   exact ⟨eq_, bel2 GE277.out GE278.out⟩
  rw [if_neg c4] at H
  have c4b0 : (a0_1 == a1_1) = false := beq_eq_false_iff_ne.mpr c4
  have c4b1 : (a0_1 != a1_1) = true := bne_iff_ne.mpr c4
  obtain rfl := Option.some.inj H; go_enter Try.func62, Try.ntmps62
  go_wp2_with (first | ((with_reducible refine gate_dst (N := 2) rfl ?_); refine bx 2 (cs := #[.string a0_0, .int .i64 a0_1]) (t := 36) ?_; intro gb277 hg w10 hbox hb; have BK277 := am (hbox); have GW277 := am ((b30_ : w.heap.size ≤ gb277)); have GE277 := am ((b30_ : w.heap.size ≤ gb277)); replace HB := am (below_step bel hb); clear hb hbox hg) | ((with_reducible refine gate_dst (N := 3) rfl ?_); refine bx 3 (cs := #[.string a1_0, .int .i64 a1_1]) (t := 36) ?_; intro gb278 hg w11 hbox hb; have BK278 := am (hbox); have GW278 := am ((b35_ : w.heap.size ≤ gb278)); have GE278 := am ((b35_ : w.heap.size ≤ gb278)); replace HB := am (below_step (bel1 GE277.out) hb); have NB277_278 := am ((b23_ : gb277 ≠ gb278)); have NB278_277 := am ((b24_ : gb278 ≠ gb277)); replace BK277 := am (blk_below (g := gb277) (o := .cells #[.string a0_0, .int .i64 a0_1] 36 (0, 0)) (bq BK277.out) hb); clear hb hbox hg; have hnb12 := NB277_278.out; have hnc12 := NB278_277.out; have hcz13_0 := bc BK277.out 0; have hcz13_1 := bc BK277.out 1; have hfz13_0 := bf BK277.out 0; have hfz13_1 := bf BK277.out 1; have hcz14_0 := bc BK278.out 0; have hcz14_1 := bc BK278.out 1; have hfz14_0 := bf BK278.out 0; have hfz14_1 := bf BK278.out 1))
  go_ret
  exact ⟨eq_, bel2 GE277.out GE278.out⟩
 rw [if_neg c3] at H
 have c3b0 : (a0_0.toList == a1_0.toList) = false := beq_eq_false_iff_ne.mpr c3
 have c3b1 : (a0_0.toList != a1_0.toList) = true := bne_iff_ne.mpr c3
 obtain rfl := Option.some.inj H; go_enter Try.func62, Try.ntmps62
 go_wp2_with (first | ((with_reducible refine gate_dst (N := 2) rfl ?_); refine bx 2 (cs := #[.string a0_0, .int .i64 a0_1]) (t := 36) ?_; intro gb277 hg w15 hbox hb; have BK277 := am (hbox); have GW277 := am ((b30_ : w.heap.size ≤ gb277)); have GE277 := am ((b30_ : w.heap.size ≤ gb277)); replace HB := am (below_step bel hb); clear hb hbox hg) | ((with_reducible refine gate_dst (N := 3) rfl ?_); refine bx 3 (cs := #[.string a1_0, .int .i64 a1_1]) (t := 36) ?_; intro gb278 hg w16 hbox hb; have BK278 := am (hbox); have GW278 := am ((b35_ : w.heap.size ≤ gb278)); have GE278 := am ((b35_ : w.heap.size ≤ gb278)); replace HB := am (below_step (bel1 GE277.out) hb); have NB277_278 := am ((b23_ : gb277 ≠ gb278)); have NB278_277 := am ((b24_ : gb278 ≠ gb277)); replace BK277 := am (blk_below (g := gb277) (o := .cells #[.string a0_0, .int .i64 a0_1] 36 (0, 0)) (bq BK277.out) hb); clear hb hbox hg; have hnb17 := NB277_278.out; have hnc17 := NB278_277.out; have hcz18_0 := bc BK277.out 0; have hcz18_1 := bc BK277.out 1; have hfz18_0 := bf BK277.out 0; have hfz18_1 := bf BK277.out 1; have hcz19_0 := bc BK278.out 0; have hcz19_1 := bc BK278.out 1; have hfz19_0 := bf BK278.out 0; have hfz19_1 := bf BK278.out 1))
 go_ret
 exact ⟨eq_, bel2 GE277.out GE278.out⟩

/-! ### laws_eqGuessS: function 15 -/
def laws_eqGuessS.l0 : Nat → List (S36) → List (S36) → Int → Option (Bool)
 | 0, _, _, _ => none
 | k + 1, x0, x1, x5 => if x5 < (x0.length : Int) then (if 0 ≤ x5 then (if x5 < (x1.length : Int) then ((laws_eqGuess.f ((rd_T36 x0 x5).f0) ((rd_T36 x0 x5).f1) ((rd_T36 x1 x5).f0) ((rd_T36 x1 x5).f1)).bind fun t281 => (if t281 = true then (laws_eqGuessS.l0 k x0 x1 (wrap64 (x5 + 1))) else (some false))) else (none)) else (none)) else (some true)
def laws_eqGuessS.f (k : Nat) (l0 : List (S36)) (l1 : List (S36)) : Option (Bool) := if (l0.length : Int) = (l1.length : Int) then (laws_eqGuessS.l0 k l0 l1 0) else (some false)
def laws_eqGuessS.T6 : Bool × List (List Nat × List Nat) := (true, [([], []), ([], []), ([0, 1], [0, 1]), ([2], [2]), ([], []), ([], []), ([4, 5], [4, 5]), ([6], [6]), ([3, 7], [3, 7]), ([8], [8])])
def laws_eqGuessS.B6 : List Nat := [0, 0, 3, 7, 0, 0, 48, 112, 255, 511]
theorem laws_eqGuessS.tab6 : rtab .any (opsOf Try.f15 6) = laws_eqGuessS.T6 := by kernel_rfl
theorem laws_eqGuessS.bits6 : waitsOk laws_eqGuessS.T6.2 laws_eqGuessS.B6 = true := by kernel_rfl
theorem laws_eqGuessS.calls (k : Nat) (A0 : Option Addr) (c0 : Nat) (l0 : List (S36)) (A1 : Option Addr) (c1 : Nat) (l1 : List (S36)) (r : Bool) (w : World) (hr0 : Kd.C k36 w A0 l0.length l0) (hc0 : l0.length ≤ c0) (hr1 : Kd.C k36 w A1 l1.length l1) (hc1 : l1.length ≤ c1) (h : laws_eqGuessS.f k l0 l1 = some r) :
  Calls Try.prog 15 #[.slice A0 l0.length c0, .slice A1 l1.length c1] w fun e w' => e = .returned (.bool r) ∧ Below w.heap.size w w' := by
 have hu36 := Try.underlying36; have HR0 := am hr0; have HC0 := am hc0; clear hr0 hc0; have HR1 := am hr1; have HC1 := am hc1; clear hr1 hc1; have HB := am (Below.refl w.heap.size w)
 have H : (if (l0.length : Int) = (l1.length : Int) then (laws_eqGuessS.l0 k l0 l1 0) else (some false)) = some r := h
 clear h
 by_cases c3 : (l0.length : Int) = (l1.length : Int)
 ·rw [if_pos c3] at H
  have c3b0 : ((l0.length : Int) == (l1.length : Int)) = true := beq_iff_eq.mpr c3
  have c3b1 : ((l0.length : Int) != (l1.length : Int)) = false := bne_eq_false_iff_eq.mpr c3
  have c3b2 : (l0.length == l1.length) = true := b39_
  clear c3
  have H' := am H
  clear H; go_enter Try.func15, Try.ntmps15; go_wp2
  go_loopg [5] k (fun kq v5 w' => ∃ (x5_1 : Int), v5 = .int .i64 x5_1 ∧ Aside0 (laws_eqGuessS.l0 kq l0 l1 x5_1 = some r) ∧ Aside0 (kq ≤ k) ∧ Aside0 (Below w.heap.size w w'))
  case atStart => exact ⟨(0), sq, H', ⟨Nat.le_refl _⟩, ⟨bel⟩⟩
  case round =>
   clear H'; (try clear c1); (try clear p2); (try clear c3); (try clear c3b0); (try clear c3b1); (try clear c3b2); obtain ⟨x5_1, rfl, HA, HK1, HB⟩ := hrel
   cases gk with
   | zero => exact absurd HA.out (by simp [laws_eqGuessS.l0])
   | succ k1 =>
    have H := HA.out; clear HA
    simp only [laws_eqGuessS.l0] at H
    by_cases c4 : x5_1 < (l0.length : Int)
    ·rw [if_pos c4] at H; have c4b0 := decide_eq_true c4; clear c4
     replace H := it H; obtain ⟨c5b0, H⟩ := H
     replace H := it H; obtain ⟨c6b0, H⟩ := H; replace H := bs H; obtain ⟨t281, A70, H⟩ := H; replace H : (if t281 = true then (laws_eqGuessS.l0 k1 l0 l1 (wrap64 (x5_1 + 1))) else (some false)) = some r := H; have A7 := Aside0.mk A70; clear A70
     by_cases c8 : t281 = true
     ·subst c8
      have H1 : (laws_eqGuessS.l0 k1 l0 l1 (wrap64 (x5_1 + 1))) = some r := b16_
      replace H := H1; clear H1
      have H' := am H
      clear H
      try go_wp2
      replace HB := am (below_drew1 HB.out)
      have p279 : 0 ≤ (x5_1 : Int) := of_decide_eq_true ad
      have q279 : x5_1 < (l0.length : Int) := of_decide_eq_true ad
      obtain ⟨ad279, e279, hx279_0, hx279_1⟩ := at_T36 HR0.out x5_1 p279 q279; have hw279_1 := hx279_1; have hw279_0 := hx279_0
      cases e279
      replace hx279_0 := kp HB.out hx279_0; replace hx279_1 := kp HB.out hx279_1; replace p279 := eq_true p279; replace q279 := eq_true q279
      have p280 : 0 ≤ (x5_1 : Int) := of_decide_eq_true ad
      have q280 : x5_1 < (l1.length : Int) := of_decide_eq_true ad
      obtain ⟨ad280, e280, hx280_0, hx280_1⟩ := at_T36 HR1.out x5_1 p280 q280; have hw280_1 := hx280_1; have hw280_0 := hx280_0
      cases e280
      replace hx280_0 := kp HB.out hx280_0; replace hx280_1 := kp HB.out hx280_1; replace p280 := eq_true p280; replace q280 := eq_true q280
      refine st (n := 10) (S := fun w' => w'.cell? (ad279.add ((x5_1).toNat * 2)) = some (.string ((rd_T36 l0 x5_1).f0)) ∧ w'.cell? ⟨(ad279.add ((x5_1).toNat * 2)).block, (ad279.add ((x5_1).toNat * 2)).off + 1, none⟩ = some (.int .i64 ((rd_T36 l0 x5_1).f1)) ∧ w'.cell? (ad280.add ((x5_1).toNat * 2)) = some (.string ((rd_T36 l1 x5_1).f0)) ∧ w'.cell? ⟨(ad280.add ((x5_1).toNat * 2)).block, (ad280.add ((x5_1).toNat * 2)).off + 1, none⟩ = some (.int .i64 ((rd_T36 l1 x5_1).f1))) (ds := []) ⟨(kp HB.out hw279_0), (kp HB.out hw279_1), (kp HB.out hw280_0), (kp HB.out hw280_1)⟩ (fun hHeld => ?_); refine with_tabW laws_eqGuessS.tab6 laws_eqGuessS.bits6 (fun HT_ HW_ => ?_)
      generalize wr.drew = w9 at HB hx279_0 hx279_1 hx280_0 hx280_1 hHeld ⊢
      refine pu 0 17 ?_
      refine pu 1 18 ?_
      refine pu 2 19 ?_
      refine pu 4 21 ?_
      refine pu 5 22 ?_
      refine pu 6 23 ?_
      refine tk4 3 20 hHeld ?_
      refine tk4 7 24 hHeld ?_
      refine on1 8 25 (fun K hK => ?_)
      refine goes_ Try.func62 (by kernel_rfl) rfl #[.agg #[.string ((rd_T36 l0 x5_1).f0), .int .i64 ((rd_T36 l0 x5_1).f1)], .agg #[.string ((rd_T36 l1 x5_1).f0), .int .i64 ((rd_T36 l1 x5_1).f1)]] (by rfl) rfl rfl mq ?_
      with_reducible refine (laws_eqGuess.calls ((rd_T36 l0 x5_1).f0) ((rd_T36 l0 x5_1).f1) ((rd_T36 l1 x5_1).f0) ((rd_T36 l1 x5_1).f1) true _ A7.out).mono ?_
      rintro e w10 ⟨rfl, hb⟩
      refine ⟨_, rfl, ?_⟩
      replace HB := am (below_step bel hb)
      (try clear hb)
      (try clear hb2)
      (try clear hk)
      (try clear hi)
      refine hK.out _ _ ⟨(kp HB.out hw279_0), (kp HB.out hw279_1), (kp HB.out hw280_0), (kp HB.out hw280_1)⟩ (fun hHeld => ?_)
      clear hK K
      refine norm_ (a' := ?_) ?_ ?_
      rotate_left
      ·show Act.put _ (some 25) _ = _
       simp only [Act.put, List.setIfInBounds_toArray, List.set_cons_zero, List.set_cons_succ, i64_w, i32_w]
       rfl
      refine pu 9 26 ?_
      refine done_ (done_of HT_.out (by kernel_rfl)) ?_
      try go_wp2
      go_roundg k1
      case measure => have := HK1.out; omega
      case rel => exact ⟨(wrap64 (x5_1 + 1)), sq, H', ⟨b22_⟩, ⟨bel⟩⟩
     replace c8 := Bool.eq_false_iff.mpr c8; subst c8
     have H1 : (some false) = some r := b5_
     replace H := H1; clear H1
     obtain rfl := Option.some.inj H
     try go_wp2
     replace HB := am (below_drew1 HB.out)
     have p279 : 0 ≤ (x5_1 : Int) := of_decide_eq_true ad
     have q279 : x5_1 < (l0.length : Int) := of_decide_eq_true ad
     obtain ⟨ad279, e279, hx279_0, hx279_1⟩ := at_T36 HR0.out x5_1 p279 q279; have hw279_1 := hx279_1; have hw279_0 := hx279_0
     cases e279
     replace hx279_0 := kp HB.out hx279_0; replace hx279_1 := kp HB.out hx279_1; replace p279 := eq_true p279; replace q279 := eq_true q279
     have p280 : 0 ≤ (x5_1 : Int) := of_decide_eq_true ad
     have q280 : x5_1 < (l1.length : Int) := of_decide_eq_true ad
     obtain ⟨ad280, e280, hx280_0, hx280_1⟩ := at_T36 HR1.out x5_1 p280 q280; have hw280_1 := hx280_1; have hw280_0 := hx280_0
     cases e280
     replace hx280_0 := kp HB.out hx280_0; replace hx280_1 := kp HB.out hx280_1; replace p280 := eq_true p280; replace q280 := eq_true q280
     refine st (n := 10) (S := fun w' => w'.cell? (ad279.add ((x5_1).toNat * 2)) = some (.string ((rd_T36 l0 x5_1).f0)) ∧ w'.cell? ⟨(ad279.add ((x5_1).toNat * 2)).block, (ad279.add ((x5_1).toNat * 2)).off + 1, none⟩ = some (.int .i64 ((rd_T36 l0 x5_1).f1)) ∧ w'.cell? (ad280.add ((x5_1).toNat * 2)) = some (.string ((rd_T36 l1 x5_1).f0)) ∧ w'.cell? ⟨(ad280.add ((x5_1).toNat * 2)).block, (ad280.add ((x5_1).toNat * 2)).off + 1, none⟩ = some (.int .i64 ((rd_T36 l1 x5_1).f1))) (ds := []) ⟨(kp HB.out hw279_0), (kp HB.out hw279_1), (kp HB.out hw280_0), (kp HB.out hw280_1)⟩ (fun hHeld => ?_); refine with_tabW laws_eqGuessS.tab6 laws_eqGuessS.bits6 (fun HT_ HW_ => ?_)
     generalize wr.drew = w11 at HB hx279_0 hx279_1 hx280_0 hx280_1 hHeld ⊢
     refine pu 0 17 ?_
     refine pu 1 18 ?_
     refine pu 2 19 ?_
     refine pu 4 21 ?_
     refine pu 5 22 ?_
     refine pu 6 23 ?_
     refine tk4 3 20 hHeld ?_
     refine tk4 7 24 hHeld ?_
     refine on1 8 25 (fun K hK => ?_)
     refine goes_ Try.func62 (by kernel_rfl) rfl #[.agg #[.string ((rd_T36 l0 x5_1).f0), .int .i64 ((rd_T36 l0 x5_1).f1)], .agg #[.string ((rd_T36 l1 x5_1).f0), .int .i64 ((rd_T36 l1 x5_1).f1)]] (by rfl) rfl rfl mq ?_
     with_reducible refine (laws_eqGuess.calls ((rd_T36 l0 x5_1).f0) ((rd_T36 l0 x5_1).f1) ((rd_T36 l1 x5_1).f0) ((rd_T36 l1 x5_1).f1) false _ A7.out).mono ?_
     rintro e w12 ⟨rfl, hb⟩
     refine ⟨_, rfl, ?_⟩
     replace HB := am (below_step bel hb)
     (try clear hb)
     (try clear hb2)
     (try clear hk)
     (try clear hi)
     refine hK.out _ _ ⟨(kp HB.out hw279_0), (kp HB.out hw279_1), (kp HB.out hw280_0), (kp HB.out hw280_1)⟩ (fun hHeld => ?_)
     clear hK K
     refine norm_ (a' := ?_) ?_ ?_
     rotate_left
     ·show Act.put _ (some 25) _ = _
      simp only [Act.put, List.setIfInBounds_toArray, List.set_cons_zero, List.set_cons_succ, i64_w, i32_w]
      rfl
     refine pu 9 26 ?_
     refine done_ (done_of HT_.out (by kernel_rfl)) ?_
     try go_wp2
     go_ret
     exact ⟨eq_, bel⟩
    rw [if_neg c4] at H; have c4b0 := decide_eq_false c4; clear c4; obtain rfl := Option.some.inj H; go_wp2; go_ret
    exact ⟨eq_, bel⟩
 rw [if_neg c3] at H
 have c3b0 : ((l0.length : Int) == (l1.length : Int)) = false := beq_eq_false_iff_ne.mpr c3
 have c3b1 : ((l0.length : Int) != (l1.length : Int)) = true := bne_iff_ne.mpr c3
 have c3b2 : (l0.length == l1.length) = false := b39_
 obtain rfl := Option.some.inj H; go_enter Try.func15, Try.ntmps15; go_wp2; go_ret
 exact ⟨eq_, bel⟩

/-! ### laws_eqStringS: function 16 -/
def laws_eqStringS.l0 : Nat → List ByteArray → List ByteArray → Int → Option (Bool)
 | 0, _, _, _ => none
 | k + 1, x0, x1, x5 => if x5 < (x0.length : Int) then (if 0 ≤ x5 then (if x5 < (x1.length : Int) then (if (rdOf ByteArray.empty x0 x5).toList = (rdOf ByteArray.empty x1 x5).toList then (laws_eqStringS.l0 k x0 x1 (wrap64 (x5 + 1))) else (some false)) else (none)) else (none)) else (some true)
def laws_eqStringS.f (k : Nat) (l0 : List ByteArray) (l1 : List ByteArray) : Option (Bool) := if (l0.length : Int) = (l1.length : Int) then (laws_eqStringS.l0 k l0 l1 0) else (some false)
theorem laws_eqStringS.calls (k : Nat) (A0 : Option Addr) (c0 : Nat) (l0 : List ByteArray) (A1 : Option Addr) (c1 : Nat) (l1 : List ByteArray) (r : Bool) (w : World) (hr0 : Kd.C Kd.string w A0 l0.length l0) (hc0 : l0.length ≤ c0) (hr1 : Kd.C Kd.string w A1 l1.length l1) (hc1 : l1.length ≤ c1) (h : laws_eqStringS.f k l0 l1 = some r) :
  Calls Try.prog 16 #[.slice A0 l0.length c0, .slice A1 l1.length c1] w fun e w' => e = .returned (.bool r) ∧ Drawn0 w w' := by
 have HR0 := am hr0; have HC0 := am hc0; clear hr0 hc0; have HR1 := am hr1; have HC1 := am hc1; clear hr1 hc1
 have H : (if (l0.length : Int) = (l1.length : Int) then (laws_eqStringS.l0 k l0 l1 0) else (some false)) = some r := h
 clear h
 by_cases c3 : (l0.length : Int) = (l1.length : Int)
 ·rw [if_pos c3] at H
  have c3b0 : ((l0.length : Int) == (l1.length : Int)) = true := beq_iff_eq.mpr c3
  have c3b1 : ((l0.length : Int) != (l1.length : Int)) = false := bne_eq_false_iff_eq.mpr c3
  have c3b2 : (l0.length == l1.length) = true := b39_
  clear c3
  have H' := am H
  clear H; go_enter Try.func16, Try.ntmps16; go_wp2
  repeat (go_quiet (fail); try go_wp2)
  go_loopg [5] k (fun kq v5 w' => ∃ (x5_1 : Int), v5 = .int .i64 x5_1 ∧ Aside0 (laws_eqStringS.l0 kq l0 l1 x5_1 = some r) ∧ Aside0 (kq ≤ k) ∧ Drawn0 w w')
  case atStart => exact ⟨(0), sq, H', ⟨Nat.le_refl _⟩, dr⟩
  case round =>
   clear H'; (try clear c1); (try clear p2); (try clear c3); (try clear c3b0); (try clear c3b1); (try clear c3b2); obtain ⟨x5_1, rfl, HA, HK1, ⟨m1, rfl⟩⟩ := hrel
   cases gk with
   | zero => exact absurd HA.out (by simp [laws_eqStringS.l0])
   | succ k1 =>
    have H := HA.out; clear HA
    simp only [laws_eqStringS.l0] at H
    by_cases c4 : x5_1 < (l0.length : Int)
    ·rw [if_pos c4] at H; have c4b0 := decide_eq_true c4; clear c4
     replace H := it H; obtain ⟨c5b0, H⟩ := H
     replace H := it H; obtain ⟨c6b0, H⟩ := H
     by_cases c7 : (rdOf ByteArray.empty l0 x5_1).toList = (rdOf ByteArray.empty l1 x5_1).toList
     ·rw [if_pos c7] at H
      have c7b0 : ((rdOf ByteArray.empty l0 x5_1).toList == (rdOf ByteArray.empty l1 x5_1).toList) = true := beq_iff_eq.mpr c7
      have c7b1 : ((rdOf ByteArray.empty l0 x5_1).toList != (rdOf ByteArray.empty l1 x5_1).toList) = false := bne_eq_false_iff_eq.mpr c7
      clear c7
      have H' := am H
      clear H
      have p282 : 0 ≤ (x5_1 : Int) := of_decide_eq_true ad
      have q282 : x5_1 < (l0.length : Int) := of_decide_eq_true ad
      obtain ⟨ad282, e282, hx282_0⟩ := Kd.at_string HR0.out x5_1 p282 q282
      cases e282
      replace p282 := eq_true p282; replace q282 := eq_true q282
      have p283 : 0 ≤ (x5_1 : Int) := of_decide_eq_true ad
      have q283 : x5_1 < (l1.length : Int) := of_decide_eq_true ad
      obtain ⟨ad283, e283, hx283_0⟩ := Kd.at_string HR1.out x5_1 p283 q283
      cases e283
      replace p283 := eq_true p283; replace q283 := eq_true q283; go_wp2
      repeat (go_quiet (fail); try go_wp2)
      go_roundg k1
      case measure => have := HK1.out; omega
      case rel => exact ⟨(wrap64 (x5_1 + 1)), sq, H', ⟨b22_⟩, dr⟩
     rw [if_neg c7] at H
     have c7b0 : ((rdOf ByteArray.empty l0 x5_1).toList == (rdOf ByteArray.empty l1 x5_1).toList) = false := beq_eq_false_iff_ne.mpr c7
     have c7b1 : ((rdOf ByteArray.empty l0 x5_1).toList != (rdOf ByteArray.empty l1 x5_1).toList) = true := bne_iff_ne.mpr c7
     obtain rfl := Option.some.inj H
     have p282 : 0 ≤ (x5_1 : Int) := of_decide_eq_true ad
     have q282 : x5_1 < (l0.length : Int) := of_decide_eq_true ad
     obtain ⟨ad282, e282, hx282_0⟩ := Kd.at_string HR0.out x5_1 p282 q282
     cases e282
     replace p282 := eq_true p282; replace q282 := eq_true q282
     have p283 : 0 ≤ (x5_1 : Int) := of_decide_eq_true ad
     have q283 : x5_1 < (l1.length : Int) := of_decide_eq_true ad
     obtain ⟨ad283, e283, hx283_0⟩ := Kd.at_string HR1.out x5_1 p283 q283
     cases e283
     replace p283 := eq_true p283; replace q283 := eq_true q283; go_wp2
     repeat (go_quiet (fail); try go_wp2)
     go_ret
     exact ⟨sq, dr⟩
    rw [if_neg c4] at H; have c4b0 := decide_eq_false c4; clear c4; obtain rfl := Option.some.inj H; go_wp2
    repeat (go_quiet (fail); try go_wp2)
    go_ret
    exact ⟨sq, dr⟩
 rw [if_neg c3] at H
 have c3b0 : ((l0.length : Int) == (l1.length : Int)) = false := beq_eq_false_iff_ne.mpr c3
 have c3b1 : ((l0.length : Int) != (l1.length : Int)) = true := bne_iff_ne.mpr c3
 have c3b2 : (l0.length == l1.length) = false := b39_
 obtain rfl := Option.some.inj H; go_enter Try.func16, Try.ntmps16; go_wp2
 repeat (go_quiet (fail); try go_wp2)
 go_ret
 exact ⟨sq, dr⟩
-- shrunk

/-! ### laws_markText: function 63 -/
def laws_markText.l0 : Nat → Int → ByteArray → Option (ByteArray)
 | 0, _, _ => none
 | k + 1, x0, x3 => if x0 > 0 then ((some (([(wrap64 (48 + (Int.tmod x0 10))) % 256] : List Int) : List Int)).bind fun y284 => (if (strOfNums y284).size + x3.size ≤ 9223372036854775807 then (laws_markText.l0 k (wrap64 (Int.tdiv x0 10)) ((strOfNums y284) ++ x3)) else (none))) else (if 1 + x3.size ≤ 9223372036854775807 then (some ((⟨#[109]⟩ : ByteArray) ++ x3)) else (none))
def laws_markText.f (k : Nat) (a0 : Int) : Option (ByteArray) := if a0 ≤ 0 then (some (⟨#[109, 48]⟩ : ByteArray)) else (laws_markText.l0 k a0 (⟨#[]⟩ : ByteArray))
theorem laws_markText.calls (k : Nat) (a0 : Int) (r : ByteArray) (w : World) (h : laws_markText.f k a0 = some r) :
  Calls Try.prog 63 #[.int .i64 a0] w fun e w' => e = .returned (.string r) ∧ Below w.heap.size w w' := by
 have HB := am (Below.refl w.heap.size w)
 have H : (if a0 ≤ 0 then (some (⟨#[109, 48]⟩ : ByteArray)) else (laws_markText.l0 k a0 (⟨#[]⟩ : ByteArray))) = some r := h
 clear h
 by_cases c2 : a0 ≤ 0
 ·rw [if_pos c2] at H; have c2b0 := decide_eq_true c2; clear c2; obtain rfl := Option.some.inj H; go_enter Try.func63, Try.ntmps63; go_wp2; go_ret
  exact ⟨eq_, bel⟩
 rw [if_neg c2] at H; have c2b0 := decide_eq_false c2; clear c2
 have H' := am H
 clear H; go_enter Try.func63, Try.ntmps63; go_wp2
 go_loopg [0, 3] k (fun kq v0 v3 w' => ∃ (x0_1 : Int) (x3_1 : ByteArray), v0 = .int .i64 x0_1 ∧ v3 = .string x3_1 ∧ Aside0 (laws_markText.l0 kq x0_1 x3_1 = some r) ∧ Aside0 (kq ≤ k) ∧ Aside0 (Below w.heap.size w w'))
 case atStart => exact ⟨(a0), ((⟨#[]⟩ : ByteArray)), sq, sq, H', ⟨Nat.le_refl _⟩, ⟨bel⟩⟩
 case round =>
  clear H'; (try clear c2); (try clear c2b0); (try clear p2); obtain ⟨x0_1, x3_1, rfl, rfl, HA, HK1, HB⟩ := hrel
  cases gk with
  | zero => exact absurd HA.out (by simp [laws_markText.l0])
  | succ k1 =>
   have H := HA.out; clear HA
   simp only [laws_markText.l0] at H
   by_cases c3 : x0_1 > 0
   ·rw [if_pos c3] at H; have c3b0 := decide_eq_true c3; clear c3; obtain ⟨y284, hy284⟩ : ∃ y_ : List Int, y_ = (([(wrap64 (48 + (Int.tmod x0_1 10))) % 256] : List Int)) := ⟨_, rfl⟩
    replace H : (if (strOfNums y284).size + x3_1.size ≤ 9223372036854775807 then (laws_markText.l0 k1 (wrap64 (Int.tdiv x0_1 10)) ((strOfNums y284) ++ x3_1)) else (none)) = some r := by first | (rw [hy284]; with_reducible exact H) | (have H2_ := bm H; rw [hy284]; with_reducible exact H2_) | (with_reducible exact bm H) | with_reducible exact H | (rw [hy284]; exact H) | exact H
    have Ny284 := am hy284; clear hy284
    replace H := ip H; obtain ⟨c4, H⟩ := H; have c4b0 := eq_true c4
    have c4b1 : decide ((strOfNums y284).size + x3_1.size ≤ 9223372036854775807) = true := decide_eq_true c4
    try have c4b2 : (9223372036854775807 < (strOfNums y284).size + x3_1.size) = False := eq_false (Nat.not_lt.2 c4)
    have H' := am H
    clear H
    go_wp2_with (first | ((with_reducible refine gate_dst (N := 12) rfl ?_); refine Kd.R_lit (Kd.int .u8) _ 5 ?hg (N := 12) ?hd (xs := ([(wrap64 (48 + (Int.tmod x0_1 10))) % 256] : List Int)) (inner := [.int .u8 ((wrap64 (48 + (Int.tmod x0_1 10))) % 256)]) (ok := fun _ => True) (okp := fun _ => True) ?hr ?hp (fun _ hk => hk) trivial (Below.refl _ _) (Nat.le_refl _) (by simp) ?_; (case hd => rfl); (case hg => rfl); (case hr => first | (go_simp; done) | (go_simp; rfl)); (case hp => exact (Reps.one (show Kd.M (Kd.int .u8) _ _ _ ((wrap64 (48 + (Int.tmod x0_1 10))) % 256) [.int .u8 ((wrap64 (48 + (Int.tmod x0_1 10))) % 256)] from rfl) (Reps.none _ _))); intro v285 w5 ho6 hb hg_ hnew_; clear hg_ hnew_; (first | rw [← Ny284.out] at ho6 | (simp only [Int.reduceToNat] at ho6; rw [← Ny284.out] at ho6) | (simp only [Int.toNat_natCast] at ho6; rw [← Ny284.out] at ho6)); have HO286 := am (Kd.R_lower ho6 (below_size bel)); replace HB := am (below_step bel hb); clear hb ho6; have hcv7 := own_string (P := Try.prog) Try.underlying31 Try.underlying5 Try.underlying9 (Kd.own_of_R HO286.out)))
    go_roundg k1
    case measure => have := HK1.out; omega
    case rel => exact ⟨(wrap64 (Int.tdiv x0_1 10)), ((strOfNums y284) ++ x3_1), sq, sq, H', ⟨b22_⟩, ⟨bel⟩⟩
   rw [if_neg c3] at H; have c3b0 := decide_eq_false c3; clear c3
   replace H := ip H; obtain ⟨c8, H⟩ := H; have c8b0 := eq_true c8
   have c8b1 : decide (1 + x3_1.size ≤ 9223372036854775807) = true := decide_eq_true c8
   try have c8b2 : (9223372036854775807 < 1 + x3_1.size) = False := eq_false (Nat.not_lt.2 c8)
   obtain rfl := Option.some.inj H; go_wp2; go_ret
   exact ⟨eq_, bel⟩

/-! ### laws_markStringS: function 17 -/
def laws_markStringS.l0 : Nat → List ByteArray → Int → Int → Option (Int × List ByteArray)
 | 0, _, _, _ => none
 | k + 1, x0, x1, x5 => if x5 < (x0.length : Int) then ((laws_markText.f k x1).bind fun t287 => (if 0 ≤ x5 then (laws_markStringS.l0 k (x0.set (x5 : Int).toNat t287) (wrap64 (x1 + 1)) (wrap64 (x5 + 1))) else (none))) else (some (x1, x0))
def laws_markStringS.f (k : Nat) (l0 : List ByteArray) (a1 : Int) : Option (Int × List ByteArray) := laws_markStringS.l0 k l0 a1 0
theorem laws_markStringS.calls (k : Nat) (P0_ : Nat → Prop) (u9000_ : Value) (l0 : List ByteArray) (a1 : Int) (r1 : Int) (r2 : List ByteArray) (w0 w : World) (hB : Below w0.heap.size w0 w) (ho0 : Kd.R Kd.string 9 w w0.heap.size P0_ u9000_ l0) (h : laws_markStringS.f k l0 a1 = some (r1, r2)) :
  Calls Try.prog 17 #[u9000_, .int .i64 a1] w fun e w' => e = .returned (.int .i64 r1) ∧ Kd.R Kd.string 9 w' w0.heap.size (fun k_ => (P0_ k_ ∨ w.heap.size ≤ k_)) u9000_ r2 ∧ Below w0.heap.size w0 w' ∧ Kept w w' (fun k_ => P0_ k_) := by
 have HO0 := am (show Kd.R Kd.string 9 w w0.heap.size (fun k_ => (P0_ k_ ∨ w.heap.size ≤ k_)) u9000_ l0 from Kd.R_mono ho0 (fun k_ hk => (.inl hk))); have HK := am (Kept.refl w (fun k_ => P0_ k_)); have HW0 := am hB.size; have HB := am hB; clear hB
 have H : (laws_markStringS.l0 k l0 a1 0) = some (r1, r2) := h
 clear h
 have H' := am H
 clear H; go_enter Try.func17, Try.ntmps17; go_wp2
 go_loopg [1, 5] k (fun kq v1 v5 w' => ∃ (x0_1 : List ByteArray) (x1_1 : Int) (x5_1 : Int), v1 = .int .i64 x1_1 ∧ v5 = .int .i64 x5_1 ∧ Aside0 (laws_markStringS.l0 kq x0_1 x1_1 x5_1 = some (r1, r2)) ∧ Aside0 (kq ≤ k) ∧ Aside0 (Kd.R Kd.string 9 w' w0.heap.size (fun k_ => (P0_ k_ ∨ w.heap.size ≤ k_)) u9000_ x0_1) ∧ Aside0 (Kept w w' (fun k_ => P0_ k_)) ∧ Aside0 (Below w0.heap.size w0 w'))
 case atStart => exact ⟨(l0), (a1), (0), sq, sq, H', ⟨Nat.le_refl _⟩, ⟨rq HO0.out⟩, ⟨b7_⟩, ⟨bel⟩⟩
 case round =>
  clear H'; (try clear c1); (try clear p2); obtain ⟨x0_1, x1_1, x5_1, rfl, rfl, HA, HK1, HO_0, HK, HB⟩ := hrel
  cases gk with
  | zero => exact absurd HA.out (by simp [laws_markStringS.l0])
  | succ k1 =>
   have H := HA.out; clear HA
   simp only [laws_markStringS.l0] at H
   by_cases c3 : x5_1 < (x0_1.length : Int)
   ·rw [if_pos c3] at H; have c3b0 := decide_eq_true c3; clear c3; replace H := bs H; obtain ⟨t287, A40, H⟩ := H; replace H : (if 0 ≤ x5_1 then (laws_markStringS.l0 k1 (x0_1.set (x5_1 : Int).toNat t287) (wrap64 (x1_1 + 1)) (wrap64 (x5_1 + 1))) else (none)) = some (r1, r2) := H; have A4 := Aside0.mk A40; clear A40
    replace H := it H; obtain ⟨c5b0, H⟩ := H; obtain ⟨y288, hy288⟩ : ∃ y_ : List ByteArray, y_ = (x0_1.set (x5_1 : Int).toNat t287) := ⟨_, rfl⟩
    replace H : (laws_markStringS.l0 k1 y288 (wrap64 (x1_1 + 1)) (wrap64 (x5_1 + 1))) = some (r1, r2) := by first | (rw [hy288]; with_reducible exact H) | (have H2_ := bm H; rw [hy288]; with_reducible exact H2_) | (with_reducible exact bm H) | with_reducible exact H | (rw [hy288]; exact H) | exact H
    have Ny288 := am hy288; clear hy288
    have H' := am H
    clear H; obtain ⟨Ao7, co7, eo7⟩ := Kd.R_slice HO_0.out; subst eo7
    go_wp2_with (first | ((with_reducible refine gate_callee (f := 63) rfl ?_); refine goesL_ (some 15) rfl rfl Try.func63 (by kernel_rfl) rfl #[.int .i64 x1_1] rfl mq ?_; (with_reducible refine (laws_markText.calls k1 x1_1 t287 _ A4.out).mono ?_); rintro e w8 ⟨rfl, hb⟩; refine ⟨_, rfl, ?_⟩; replace HO_0 := am (Kd.R_below (rq HO_0.out) hb); replace HK := am (Kept.below (S := (fun k_ => P0_ k_)) b7_ hb); replace HB := am (below_step bel hb); (try clear hb); (try clear hb2); (try clear hk); (try clear hi); have p6 : 0 ≤ (x5_1 : Int) := of_decide_eq_true ad; have q6 : (x5_1 : Int) < ((x0_1.length : Int) : Int) := of_decide_eq_true ad; obtain ⟨go6, co6, eo6, gb6, gl6, cl6, HG6⟩ := Kd.R_form HO_0.out (by omega); (first | cases eo6 | (injection eo6 with ea_ en_ ec_; (first | subst ea_ | (injection ea_ with ea_; subst ea_)); subst ec_; clear en_)); have GB6 := Aside0.mk gb6; have GG6 := am HG6; clear gb6 gl6 HG6; have HMgo6 := am (show (P0_ go6 ∨ w.heap.size ≤ go6) from (HO_0.out.1 _ rfl)); obtain ⟨hx6_0, hf6_0⟩ := Kd.R_celln (⟨#[]⟩ : ByteArray) HO_0.out (x5_1 : Int) p6 q6; replace p6 := eq_true p6; replace q6 := eq_true q6; obtain ⟨hy9_, hz9_⟩ := Kd.R_celln (⟨#[]⟩ : ByteArray) HO_0.out (x5_1 : Int) (of_decide_eq_true ad) (of_decide_eq_true ad); have HP9 := Kd.R_putg HO_0.out (x5_1 : Int) t287) | ((with_reducible refine gate_store (t := 9) (p := 16) rfl ?_); refine store_event (t := 9) (p := 16) (v := ?vo_w10) (w1 := (w8.setCell ⟨go6, (x5_1 : Int).toNat, none⟩ (.string t287))) ?hg ?ho ?hn ?hr ?_; (case ho => rfl); (case hg => rfl); (case hn => rfl); (case hr => first | (go_simp; done) | (go_simp; rfl)); intro w10 hw; have hg : w8.grownBy w10 (some go6) := (by rw [hw]; exact HP9.2); have hp_ : Kd.R Kd.string 9 w10 w0.heap.size (fun k_ => (P0_ k_ ∨ w.heap.size ≤ k_)) (.slice (some ⟨go6, 0, none⟩) x0_1.length co7) y288 := (by rw [hw, Ny288.out]; exact HP9.1); clear HP9; replace HB := am ((by rw [hw]; exact below_set (HB.out) GB6.out : Below w0.heap.size w0 w10)); replace HK := am (Kept.of_grown (S := (fun k_ => P0_ k_)) hg b7_ (fun k_ e_ => (HO_0.out.1 k_ e_))); replace HO_0 := am (hp_); clear hg hw hp_))
    go_roundg k1
    case measure => have := HK1.out; omega
    case rel => exact ⟨(y288), (wrap64 (x1_1 + 1)), (wrap64 (x5_1 + 1)), sq, sq, H', ⟨b22_⟩, ⟨rq HO_0.out⟩, ⟨b7_⟩, ⟨bel⟩⟩
   rw [if_neg c3] at H; have c3b0 := decide_eq_false c3; clear c3
   simp only [Option.some.injEq, Prod.mk.injEq] at H
   obtain ⟨rfl, rfl⟩ := H; obtain ⟨Ao11, co11, eo11⟩ := Kd.R_slice HO_0.out; subst eo11; go_wp2; go_ret
   exact ⟨eq_, by (with_reducible repeat (first | apply Kd.R_alloc | apply Kd.R_drewN | apply Kd.R_drew)); exact HO_0.out, bel, b7_⟩

/-! ### laws_markGuessS: function 18 -/
def laws_markGuessS.l0 : Nat → List (S36) → Int → Int → Option (Int × (List (S36)))
 | 0, _, _, _ => none
 | k + 1, x0, x1, x5 => if x5 < (x0.length : Int) then ((laws_markText.f k x1).bind fun t289 => (if 0 ≤ x5 then ((some (x0.set (x5 : Int).toNat (⟨t289, (rd_T36 x0 x5).f1⟩ : S36) : List (S36))).bind fun y290 => (laws_markGuessS.l0 k (y290.set (x5 : Int).toNat (⟨(rd_T36 y290 x5).f0, wrap64 (x1 + 1)⟩ : S36)) (wrap64 ((wrap64 (x1 + 1)) + 1)) (wrap64 (x5 + 1)))) else (none))) else (some (x1, x0))
def laws_markGuessS.f (k : Nat) (l0 : List (S36)) (a1 : Int) : Option (Int × (List (S36))) := laws_markGuessS.l0 k l0 a1 0
theorem laws_markGuessS.calls (k : Nat) (P0_ : Nat → Prop) (u9000_ : Value) (l0 : List (S36)) (a1 : Int) (r1 : Int) (r2 : List (S36)) (w0 w : World) (hB : Below w0.heap.size w0 w) (ho0 : Kd.R k36 36 w w0.heap.size P0_ u9000_ l0) (h : laws_markGuessS.f k l0 a1 = some (r1, r2)) :
  Calls Try.prog 18 #[u9000_, .int .i64 a1] w fun e w' => e = .returned (.int .i64 r1) ∧ Kd.R k36 36 w' w0.heap.size (fun k_ => (P0_ k_ ∨ w.heap.size ≤ k_)) u9000_ r2 ∧ Below w0.heap.size w0 w' ∧ Kept w w' (fun k_ => P0_ k_) := by
 have HO0 := am (show Kd.R k36 36 w w0.heap.size (fun k_ => (P0_ k_ ∨ w.heap.size ≤ k_)) u9000_ l0 from Kd.R_mono ho0 (fun k_ hk => (.inl hk))); have HK := am (Kept.refl w (fun k_ => P0_ k_)); have HW0 := am hB.size; have HB := am hB; clear hB
 have H : (laws_markGuessS.l0 k l0 a1 0) = some (r1, r2) := h
 clear h
 have H' := am H
 clear H; go_enter Try.func18, Try.ntmps18; go_wp2
 go_loopg [1, 5] k (fun kq v1 v5 w' => ∃ (x0_1 : List (S36)) (x1_1 : Int) (x5_1 : Int), v1 = .int .i64 x1_1 ∧ v5 = .int .i64 x5_1 ∧ Aside0 (laws_markGuessS.l0 kq x0_1 x1_1 x5_1 = some (r1, r2)) ∧ Aside0 (kq ≤ k) ∧ Aside0 (Kd.R k36 36 w' w0.heap.size (fun k_ => (P0_ k_ ∨ w.heap.size ≤ k_)) u9000_ x0_1) ∧ Aside0 (Kept w w' (fun k_ => P0_ k_)) ∧ Aside0 (Below w0.heap.size w0 w'))
 case atStart => exact ⟨(l0), (a1), (0), sq, sq, H', ⟨Nat.le_refl _⟩, ⟨rq HO0.out⟩, ⟨b7_⟩, ⟨bel⟩⟩
 case round =>
  clear H'; (try clear c1); (try clear p2); obtain ⟨x0_1, x1_1, x5_1, rfl, rfl, HA, HK1, HO_0, HK, HB⟩ := hrel
  cases gk with
  | zero => exact absurd HA.out (by simp [laws_markGuessS.l0])
  | succ k1 =>
   have H := HA.out; clear HA
   simp only [laws_markGuessS.l0] at H
   by_cases c3 : x5_1 < (x0_1.length : Int)
   ·rw [if_pos c3] at H; have c3b0 := decide_eq_true c3; clear c3; replace H := bs H; obtain ⟨t289, A40, H⟩ := H; replace H : (if 0 ≤ x5_1 then ((some (x0_1.set (x5_1 : Int).toNat (⟨t289, (rd_T36 x0_1 x5_1).f1⟩ : S36) : List (S36))).bind fun y290 => (laws_markGuessS.l0 k1 (y290.set (x5_1 : Int).toNat (⟨(rd_T36 y290 x5_1).f0, wrap64 (x1_1 + 1)⟩ : S36)) (wrap64 ((wrap64 (x1_1 + 1)) + 1)) (wrap64 (x5_1 + 1)))) else (none)) = some (r1, r2) := H; have A4 := Aside0.mk A40; clear A40
    replace H := it H; obtain ⟨c5b0, H⟩ := H; obtain ⟨y290, hy290⟩ : ∃ y_ : List (S36), y_ = (x0_1.set (x5_1 : Int).toNat (⟨t289, (rd_T36 x0_1 x5_1).f1⟩ : S36)) := ⟨_, rfl⟩
    replace H : (laws_markGuessS.l0 k1 (y290.set (x5_1 : Int).toNat (⟨(rd_T36 y290 x5_1).f0, wrap64 (x1_1 + 1)⟩ : S36)) (wrap64 ((wrap64 (x1_1 + 1)) + 1)) (wrap64 (x5_1 + 1))) = some (r1, r2) := by first | (rw [hy290]; with_reducible exact H) | (have H2_ := bm H; rw [hy290]; with_reducible exact H2_) | (with_reducible exact bm H) | with_reducible exact H | (rw [hy290]; exact H) | exact H
    have Ny290 := am hy290; clear hy290; obtain ⟨y291, hy291⟩ : ∃ y_ : List (S36), y_ = (y290.set (x5_1 : Int).toNat (⟨(rd_T36 y290 x5_1).f0, wrap64 (x1_1 + 1)⟩ : S36)) := ⟨_, rfl⟩
    replace H : (laws_markGuessS.l0 k1 y291 (wrap64 ((wrap64 (x1_1 + 1)) + 1)) (wrap64 (x5_1 + 1))) = some (r1, r2) := by first | (rw [hy291]; with_reducible exact H) | (have H2_ := bm H; rw [hy291]; with_reducible exact H2_) | (with_reducible exact bm H) | with_reducible exact H | (rw [hy291]; exact H) | exact H
    have Ny291 := am hy291; clear hy291
    have H' := am H
    clear H; obtain ⟨Ao8, co8, eo8⟩ := Kd.R_slice HO_0.out; subst eo8
    go_wp2_with (first | ((with_reducible refine gate_callee (f := 63) rfl ?_); refine goesL_ (some 15) rfl rfl Try.func63 (by kernel_rfl) rfl #[.int .i64 x1_1] rfl mq ?_; (with_reducible refine (laws_markText.calls k1 x1_1 t289 _ A4.out).mono ?_); rintro e w9 ⟨rfl, hb⟩; refine ⟨_, rfl, ?_⟩; replace HO_0 := am (Kd.R_below (rq HO_0.out) hb); replace HK := am (Kept.below (S := (fun k_ => P0_ k_)) b7_ hb); replace HB := am (below_step bel hb); (try clear hb); (try clear hb2); (try clear hk); (try clear hi); have p6 : 0 ≤ (x5_1 : Int) := of_decide_eq_true ad; have q6 : (x5_1 : Int) < ((x0_1.length : Int) : Int) := of_decide_eq_true ad; obtain ⟨go6, co6, eo6, gb6, gl6, cl6, HG6⟩ := Kd.R_form HO_0.out (by omega); (first | cases eo6 | (injection eo6 with ea_ en_ ec_; (first | subst ea_ | (injection ea_ with ea_; subst ea_)); subst ec_; clear en_)); have GB6 := Aside0.mk gb6; have GG6 := am HG6; clear gb6 gl6 HG6; have HMgo6 := am (show (P0_ go6 ∨ w.heap.size ≤ go6) from (HO_0.out.1 _ rfl)); obtain ⟨ce6, hcl6, hM6, hcc6, hfr6⟩ := Kd.R_elem HO_0.out z36 (x5_1 : Int) p6 q6; obtain rfl := k36_openM hM6; have hx6_0 : w9.cell? ⟨go6, (x5_1 : Int).toNat * 2, none⟩ = some (.string ((rd_T36 x0_1 x5_1).f0)) := hcc6 0 _ rfl; have hx6_1 : w9.cell? ⟨go6, (x5_1 : Int).toNat * 2 + 1, none⟩ = some (.int .i64 ((rd_T36 x0_1 x5_1).f1)) := hcc6 1 _ rfl; have hf6_0 : w9.frozen? ⟨go6, (x5_1 : Int).toNat * 2, none⟩ = false := hfr6 0; have hf6_1 : w9.frozen? ⟨go6, (x5_1 : Int).toNat * 2 + 1, none⟩ = false := hfr6 1; clear hcl6 hcc6 hfr6; (try clear hM6); replace p6 := eq_true p6; replace q6 := eq_true q6; have HX10 := am (show Kd.R k36 36 w9 w0.heap.size (fun k_ => (P0_ k_ ∨ w.heap.size ≤ k_)) (.slice (some ⟨go6, 0, none⟩) x0_1.length co8) x0_1 from (rq HO_0.out)); obtain ⟨ce10, hcl10, hM10, hcc10, hfr10⟩ := Kd.R_elem HX10.out z36 (x5_1 : Int) (of_decide_eq_true ad) b18_; obtain rfl := k36_openM hM10; have HP10 := Kd.R_seg HX10.out (x5_1 : Int) (of_decide_eq_true ad) b18_ (seg := [.string t289]) (j := 0) hcl10 hcc10 (show 1 ≤ 2 from by decide) (x' := (⟨t289, (rd_T36 x0_1 x5_1).f1⟩ : S36)) (k36_mkM _ _ _ (⟨t289, (rd_T36 x0_1 x5_1).f1⟩ : S36) ) (fun _ hk => hk); have hx10_0 := hcc10 0 _ rfl; (try simp only [show (k36).sz = 2 from rfl, Nat.mul_one, Nat.add_zero] at hx10_0); have hf10_0 := hfr10 0; (try simp only [show (k36).sz = 2 from rfl, Nat.mul_one, Nat.add_zero] at hf10_0); clear hcl10 hcc10 hfr10; (try clear hM10)) | ((with_reducible refine gate_store (t := 9) (p := 17) rfl ?_); refine store_event (t := 9) (p := 17) (v := ?vo_w11) (w1 := (w9.setCell ⟨go6, (x5_1 : Int).toNat * 2, none⟩ (.string t289))) ?hg ?ho ?hn ?hr ?_; (case ho => rfl); (case hg => rfl); (case hn => rfl); (case hr => first | (go_simp; done) | (go_simp; rfl)); intro w11 hw; have hg : w9.grownBy w11 (some go6) := (by rw [hw]; exact HP10.2); have hp_ : Kd.R k36 36 w11 w0.heap.size (fun k_ => (P0_ k_ ∨ w.heap.size ≤ k_)) (.slice (some ⟨go6, 0, none⟩) x0_1.length co8) y290 := (by rw [hw, Ny290.out]; exact HP10.1); clear HP10; replace HB := am ((by rw [hw]; exact below_set (HB.out) GB6.out : Below w0.heap.size w0 w11)); replace HK := am (Kept.of_grown (S := (fun k_ => P0_ k_)) hg b7_ (fun k_ e_ => (HO_0.out.1 k_ e_))); replace HO_0 := am (hp_); clear hg hw hp_; have p7 : 0 ≤ (x5_1 : Int) := of_decide_eq_true ad; have q7 : (x5_1 : Int) < ((x0_1.length : Int) : Int) := of_decide_eq_true ad; obtain ⟨ce7, hcl7, hM7, hcc7, hfr7⟩ := Kd.R_elem HO_0.out z36 (x5_1 : Int) p7 q7; obtain rfl := k36_openM hM7; have hx7_0 : w11.cell? ⟨go6, (x5_1 : Int).toNat * 2, none⟩ = some (.string ((rd_T36 y290 x5_1).f0)) := hcc7 0 _ rfl; have hx7_1 : w11.cell? ⟨go6, (x5_1 : Int).toNat * 2 + 1, none⟩ = some (.int .i64 ((rd_T36 y290 x5_1).f1)) := hcc7 1 _ rfl; have hf7_0 : w11.frozen? ⟨go6, (x5_1 : Int).toNat * 2, none⟩ = false := hfr7 0; have hf7_1 : w11.frozen? ⟨go6, (x5_1 : Int).toNat * 2 + 1, none⟩ = false := hfr7 1; clear hcl7 hcc7 hfr7; (try clear hM7); replace p7 := eq_true p7; replace q7 := eq_true q7; have HX12 := am (show Kd.R k36 36 w11 w0.heap.size (fun k_ => (P0_ k_ ∨ w.heap.size ≤ k_)) (.slice (some ⟨go6, 0, none⟩) x0_1.length co8) y290 from (rq HO_0.out)); obtain ⟨ce12, hcl12, hM12, hcc12, hfr12⟩ := Kd.R_elem HX12.out z36 (x5_1 : Int) (of_decide_eq_true ad) b18_; obtain rfl := k36_openM hM12; have HP12 := Kd.R_seg HX12.out (x5_1 : Int) (of_decide_eq_true ad) b18_ (seg := [.int .i64 (wrap64 (x1_1 + 1))]) (j := 1) hcl12 hcc12 (show 2 ≤ 2 from by decide) (x' := (⟨(rd_T36 y290 x5_1).f0, wrap64 (x1_1 + 1)⟩ : S36)) (k36_mkM _ _ _ (⟨(rd_T36 y290 x5_1).f0, wrap64 (x1_1 + 1)⟩ : S36) ) (fun _ hk => hk); have hx12_1 := hcc12 1 _ rfl; (try simp only [show (k36).sz = 2 from rfl, Nat.mul_one, Nat.add_zero] at hx12_1); have hf12_1 := hfr12 1; (try simp only [show (k36).sz = 2 from rfl, Nat.mul_one, Nat.add_zero] at hf12_1); clear hcl12 hcc12 hfr12; (try clear hM12)) | ((with_reducible refine gate_store (t := 3) (p := 24) rfl ?_); refine store_event (t := 3) (p := 24) (v := ?vo_w13) (w1 := (w11.setCell ⟨go6, (x5_1 : Int).toNat * 2 + 1, none⟩ (.int .i64 (wrap64 (x1_1 + 1))))) ?hg ?ho ?hn ?hr ?_; (case ho => rfl); (case hg => rfl); (case hn => rfl); (case hr => first | (go_simp; done) | (go_simp; rfl)); intro w13 hw; have hg : w11.grownBy w13 (some go6) := (by rw [hw]; exact HP12.2); have hp_ : Kd.R k36 36 w13 w0.heap.size (fun k_ => (P0_ k_ ∨ w.heap.size ≤ k_)) (.slice (some ⟨go6, 0, none⟩) x0_1.length co8) y291 := (by rw [hw, Ny291.out]; exact HP12.1); clear HP12; replace HB := am ((by rw [hw]; exact below_set (HB.out) GB6.out : Below w0.heap.size w0 w13)); replace HK := am (Kept.of_grown (S := (fun k_ => P0_ k_)) hg b7_ (fun k_ e_ => (HO_0.out.1 k_ e_))); replace HO_0 := am (hp_); clear hg hw hp_))
    go_roundg k1
    case measure => have := HK1.out; omega
    case rel => exact ⟨(y291), (wrap64 ((wrap64 (x1_1 + 1)) + 1)), (wrap64 (x5_1 + 1)), sq, sq, H', ⟨b22_⟩, ⟨rq HO_0.out⟩, ⟨b7_⟩, ⟨bel⟩⟩
   rw [if_neg c3] at H; have c3b0 := decide_eq_false c3; clear c3
   simp only [Option.some.injEq, Prod.mk.injEq] at H
   obtain ⟨rfl, rfl⟩ := H; obtain ⟨Ao14, co14, eo14⟩ := Kd.R_slice HO_0.out; subst eo14; go_wp2; go_ret
   exact ⟨eq_, by (with_reducible repeat (first | apply Kd.R_alloc | apply Kd.R_drewN | apply Kd.R_drew)); exact HO_0.out, bel, b7_⟩

/-! ### laws_heldGuessS: function 19 -/
def laws_heldGuessS.l0 : Nat → List (S36) → Int → Int → Option (Int)
 | 0, _, _, _ => none
 | k + 1, x0, x1, x5 => if x5 < (x0.length : Int) then (if 0 ≤ x5 then ((laws_markText.f k x1).bind fun t293 => (if ((rd_T36 x0 x5).f0).toList = t293.toList then (if ((rd_T36 x0 x5).f1) = (wrap64 (x1 + 1)) then (laws_heldGuessS.l0 k x0 (wrap64 ((wrap64 (x1 + 1)) + 1)) (wrap64 (x5 + 1))) else (some (-1))) else (some (-1)))) else (none)) else (some x1)
def laws_heldGuessS.f (k : Nat) (l0 : List (S36)) (a1 : Int) : Option (Int) := laws_heldGuessS.l0 k l0 a1 0
def laws_heldGuessS.T4 : Bool × List (List Nat × List Nat) := (true, [([], []), ([], []), ([0, 1], [0, 1]), ([2], [2]), ([3], [3]), ([], []), ([5], [5]), ([4, 6], [4, 6])])
def laws_heldGuessS.B4 : List Nat := [0, 0, 3, 7, 15, 0, 32, 127]
theorem laws_heldGuessS.tab4 : rtab .any (opsOf Try.f19 4) = laws_heldGuessS.T4 := by kernel_rfl
theorem laws_heldGuessS.bits4 : waitsOk laws_heldGuessS.T4.2 laws_heldGuessS.B4 = true := by kernel_rfl
theorem laws_heldGuessS.calls (k : Nat) (A0 : Option Addr) (c0 : Nat) (l0 : List (S36)) (a1 : Int) (r : Int) (w : World) (hr0 : Kd.C k36 w A0 l0.length l0) (hc0 : l0.length ≤ c0) (h : laws_heldGuessS.f k l0 a1 = some r) :
  Calls Try.prog 19 #[.slice A0 l0.length c0, .int .i64 a1] w fun e w' => e = .returned (.int .i64 r) ∧ Below w.heap.size w w' := by
 have HR0 := am hr0; have HC0 := am hc0; clear hr0 hc0; have HB := am (Below.refl w.heap.size w)
 have H : (laws_heldGuessS.l0 k l0 a1 0) = some r := h
 clear h
 have H' := am H
 clear H; go_enter Try.func19, Try.ntmps19; go_wp2
 go_loopg [1, 5] k (fun kq v1 v5 w' => ∃ (x1_1 : Int) (x5_1 : Int), v1 = .int .i64 x1_1 ∧ v5 = .int .i64 x5_1 ∧ Aside0 (laws_heldGuessS.l0 kq l0 x1_1 x5_1 = some r) ∧ Aside0 (kq ≤ k) ∧ Aside0 (Below w.heap.size w w'))
 case atStart => exact ⟨(a1), (0), sq, sq, H', ⟨Nat.le_refl _⟩, ⟨bel⟩⟩
 case round =>
  clear H'; (try clear c1); (try clear p2); obtain ⟨x1_1, x5_1, rfl, rfl, HA, HK1, HB⟩ := hrel
  cases gk with
  | zero => exact absurd HA.out (by simp [laws_heldGuessS.l0])
  | succ k1 =>
   have H := HA.out; clear HA
   simp only [laws_heldGuessS.l0] at H
   by_cases c3 : x5_1 < (l0.length : Int)
   ·rw [if_pos c3] at H; have c3b0 := decide_eq_true c3; clear c3
    replace H := it H; obtain ⟨c4b0, H⟩ := H; replace H := bs H; obtain ⟨t293, A50, H⟩ := H; replace H : (if ((rd_T36 l0 x5_1).f0).toList = t293.toList then (if ((rd_T36 l0 x5_1).f1) = (wrap64 (x1_1 + 1)) then (laws_heldGuessS.l0 k1 l0 (wrap64 ((wrap64 (x1_1 + 1)) + 1)) (wrap64 (x5_1 + 1))) else (some (-1))) else (some (-1))) = some r := H; have A5 := Aside0.mk A50; clear A50
    by_cases c6 : ((rd_T36 l0 x5_1).f0).toList = t293.toList
    ·rw [if_pos c6] at H
     have c6b0 : (((rd_T36 l0 x5_1).f0).toList == t293.toList) = true := beq_iff_eq.mpr c6
     have c6b1 : (((rd_T36 l0 x5_1).f0).toList != t293.toList) = false := bne_eq_false_iff_eq.mpr c6
     clear c6
     by_cases c7 : ((rd_T36 l0 x5_1).f1) = (wrap64 (x1_1 + 1))
     ·rw [if_pos c7] at H
      have c7b0 : (((rd_T36 l0 x5_1).f1) == (wrap64 (x1_1 + 1))) = true := beq_iff_eq.mpr c7
      have c7b1 : (((rd_T36 l0 x5_1).f1) != (wrap64 (x1_1 + 1))) = false := bne_eq_false_iff_eq.mpr c7
      clear c7
      have H' := am H
      clear H
      try go_wp2
      replace HB := am (below_drew1 HB.out)
      have p292 : 0 ≤ (x5_1 : Int) := of_decide_eq_true ad
      have q292 : x5_1 < (l0.length : Int) := of_decide_eq_true ad
      obtain ⟨ad292, e292, hx292_0, hx292_1⟩ := at_T36 HR0.out x5_1 p292 q292; have hw292_1 := hx292_1; have hw292_0 := hx292_0
      cases e292
      replace hx292_0 := kp HB.out hx292_0; replace hx292_1 := kp HB.out hx292_1; replace p292 := eq_true p292; replace q292 := eq_true q292
      refine st (n := 8) (S := fun w' => w'.cell? (ad292.add ((x5_1).toNat * 2)) = some (.string ((rd_T36 l0 x5_1).f0)) ∧ w'.cell? ⟨(ad292.add ((x5_1).toNat * 2)).block, (ad292.add ((x5_1).toNat * 2)).off + 1, none⟩ = some (.int .i64 ((rd_T36 l0 x5_1).f1))) (ds := []) ⟨(kp HB.out hw292_0), (kp HB.out hw292_1)⟩ (fun hHeld => ?_); refine with_tabW laws_heldGuessS.tab4 laws_heldGuessS.bits4 (fun HT_ HW_ => ?_)
      generalize wr.drew = w8 at HB hx292_0 hx292_1 hHeld ⊢
      refine pu 0 12 ?_
      refine pu 1 13 ?_
      refine pu 2 14 ?_
      refine pu 3 15 ?_
      refine pu 5 17 ?_
      refine tk2 4 16 hHeld ?_
      refine on1 6 18 (fun K hK => ?_)
      refine goes_ Try.func63 (by kernel_rfl) rfl #[.int .i64 x1_1] (by rfl) rfl rfl mq ?_
      with_reducible refine (laws_markText.calls k1 x1_1 t293 _ A5.out).mono ?_
      rintro e w9 ⟨rfl, hb⟩
      refine ⟨_, rfl, ?_⟩
      replace HB := am (below_step bel hb)
      (try clear hb)
      (try clear hb2)
      (try clear hk)
      (try clear hi)
      refine hK.out _ _ ⟨(kp HB.out hw292_0), (kp HB.out hw292_1)⟩ (fun hHeld => ?_)
      clear hK K
      refine norm_ (a' := ?_) ?_ ?_
      rotate_left
      ·show Act.put _ (some 18) _ = _
       simp only [Act.put, List.setIfInBounds_toArray, List.set_cons_zero, List.set_cons_succ, i64_w, i32_w]
       rfl
      refine pu 7 19 ?_
      refine done_ (done_of HT_.out (by kernel_rfl)) ?_
      have p294 : 0 ≤ (x5_1 : Int) := of_decide_eq_true ad
      have q294 : x5_1 < (l0.length : Int) := of_decide_eq_true ad
      obtain ⟨ad294, e294, hx294_0, hx294_1⟩ := at_T36 HR0.out x5_1 p294 q294
      obtain rfl : ad292 = ad294 := (by injection e294)
      replace hx294_0 := kp HB.out hx294_0; replace hx294_1 := kp HB.out hx294_1; replace p294 := eq_true p294; replace q294 := eq_true q294
      try go_wp2
      go_roundg k1
      case measure => have := HK1.out; omega
      case rel => exact ⟨(wrap64 ((wrap64 (x1_1 + 1)) + 1)), (wrap64 (x5_1 + 1)), sq, sq, H', ⟨b22_⟩, ⟨bel⟩⟩
     rw [if_neg c7] at H
     have c7b0 : (((rd_T36 l0 x5_1).f1) == (wrap64 (x1_1 + 1))) = false := beq_eq_false_iff_ne.mpr c7
     have c7b1 : (((rd_T36 l0 x5_1).f1) != (wrap64 (x1_1 + 1))) = true := bne_iff_ne.mpr c7
     obtain rfl := Option.some.inj H
     try go_wp2
     replace HB := am (below_drew1 HB.out)
     have p292 : 0 ≤ (x5_1 : Int) := of_decide_eq_true ad
     have q292 : x5_1 < (l0.length : Int) := of_decide_eq_true ad
     obtain ⟨ad292, e292, hx292_0, hx292_1⟩ := at_T36 HR0.out x5_1 p292 q292; have hw292_1 := hx292_1; have hw292_0 := hx292_0
     cases e292
     replace hx292_0 := kp HB.out hx292_0; replace hx292_1 := kp HB.out hx292_1; replace p292 := eq_true p292; replace q292 := eq_true q292
     refine st (n := 8) (S := fun w' => w'.cell? (ad292.add ((x5_1).toNat * 2)) = some (.string ((rd_T36 l0 x5_1).f0)) ∧ w'.cell? ⟨(ad292.add ((x5_1).toNat * 2)).block, (ad292.add ((x5_1).toNat * 2)).off + 1, none⟩ = some (.int .i64 ((rd_T36 l0 x5_1).f1))) (ds := []) ⟨(kp HB.out hw292_0), (kp HB.out hw292_1)⟩ (fun hHeld => ?_); refine with_tabW laws_heldGuessS.tab4 laws_heldGuessS.bits4 (fun HT_ HW_ => ?_)
     generalize wr.drew = w10 at HB hx292_0 hx292_1 hHeld ⊢
     refine pu 0 12 ?_
     refine pu 1 13 ?_
     refine pu 2 14 ?_
     refine pu 3 15 ?_
     refine pu 5 17 ?_
     refine tk2 4 16 hHeld ?_
     refine on1 6 18 (fun K hK => ?_)
     refine goes_ Try.func63 (by kernel_rfl) rfl #[.int .i64 x1_1] (by rfl) rfl rfl mq ?_
     with_reducible refine (laws_markText.calls k1 x1_1 t293 _ A5.out).mono ?_
     rintro e w11 ⟨rfl, hb⟩
     refine ⟨_, rfl, ?_⟩
     replace HB := am (below_step bel hb)
     (try clear hb)
     (try clear hb2)
     (try clear hk)
     (try clear hi)
     refine hK.out _ _ ⟨(kp HB.out hw292_0), (kp HB.out hw292_1)⟩ (fun hHeld => ?_)
     clear hK K
     refine norm_ (a' := ?_) ?_ ?_
     rotate_left
     ·show Act.put _ (some 18) _ = _
      simp only [Act.put, List.setIfInBounds_toArray, List.set_cons_zero, List.set_cons_succ, i64_w, i32_w]
      rfl
     refine pu 7 19 ?_
     refine done_ (done_of HT_.out (by kernel_rfl)) ?_
     have p294 : 0 ≤ (x5_1 : Int) := of_decide_eq_true ad
     have q294 : x5_1 < (l0.length : Int) := of_decide_eq_true ad
     obtain ⟨ad294, e294, hx294_0, hx294_1⟩ := at_T36 HR0.out x5_1 p294 q294
     obtain rfl : ad292 = ad294 := (by injection e294)
     replace hx294_0 := kp HB.out hx294_0; replace hx294_1 := kp HB.out hx294_1; replace p294 := eq_true p294; replace q294 := eq_true q294
     try go_wp2
     go_ret
     exact ⟨eq_, bel⟩
    rw [if_neg c6] at H
    have c6b0 : (((rd_T36 l0 x5_1).f0).toList == t293.toList) = false := beq_eq_false_iff_ne.mpr c6
    have c6b1 : (((rd_T36 l0 x5_1).f0).toList != t293.toList) = true := bne_iff_ne.mpr c6
    obtain rfl := Option.some.inj H
    try go_wp2
    replace HB := am (below_drew1 HB.out)
    have p292 : 0 ≤ (x5_1 : Int) := of_decide_eq_true ad
    have q292 : x5_1 < (l0.length : Int) := of_decide_eq_true ad
    obtain ⟨ad292, e292, hx292_0, hx292_1⟩ := at_T36 HR0.out x5_1 p292 q292; have hw292_1 := hx292_1; have hw292_0 := hx292_0
    cases e292
    replace hx292_0 := kp HB.out hx292_0; replace hx292_1 := kp HB.out hx292_1; replace p292 := eq_true p292; replace q292 := eq_true q292
    refine st (n := 8) (S := fun w' => w'.cell? (ad292.add ((x5_1).toNat * 2)) = some (.string ((rd_T36 l0 x5_1).f0)) ∧ w'.cell? ⟨(ad292.add ((x5_1).toNat * 2)).block, (ad292.add ((x5_1).toNat * 2)).off + 1, none⟩ = some (.int .i64 ((rd_T36 l0 x5_1).f1))) (ds := []) ⟨(kp HB.out hw292_0), (kp HB.out hw292_1)⟩ (fun hHeld => ?_); refine with_tabW laws_heldGuessS.tab4 laws_heldGuessS.bits4 (fun HT_ HW_ => ?_)
    generalize wr.drew = w12 at HB hx292_0 hx292_1 hHeld ⊢
    refine pu 0 12 ?_
    refine pu 1 13 ?_
    refine pu 2 14 ?_
    refine pu 3 15 ?_
    refine pu 5 17 ?_
    refine tk2 4 16 hHeld ?_
    refine on1 6 18 (fun K hK => ?_)
    refine goes_ Try.func63 (by kernel_rfl) rfl #[.int .i64 x1_1] (by rfl) rfl rfl mq ?_
    with_reducible refine (laws_markText.calls k1 x1_1 t293 _ A5.out).mono ?_
    rintro e w13 ⟨rfl, hb⟩
    refine ⟨_, rfl, ?_⟩
    replace HB := am (below_step bel hb)
    (try clear hb)
    (try clear hb2)
    (try clear hk)
    (try clear hi)
    refine hK.out _ _ ⟨(kp HB.out hw292_0), (kp HB.out hw292_1)⟩ (fun hHeld => ?_)
    clear hK K
    refine norm_ (a' := ?_) ?_ ?_
    rotate_left
    ·show Act.put _ (some 18) _ = _
     simp only [Act.put, List.setIfInBounds_toArray, List.set_cons_zero, List.set_cons_succ, i64_w, i32_w]
     rfl
    refine pu 7 19 ?_
    refine done_ (done_of HT_.out (by kernel_rfl)) ?_
    try go_wp2
    go_ret
    exact ⟨eq_, bel⟩
   rw [if_neg c3] at H; have c3b0 := decide_eq_false c3; clear c3; obtain rfl := Option.some.inj H; go_wp2; go_ret
   exact ⟨eq_, bel⟩
end Go.Proofs.Ytfpmfaelodfecaa.QFnExactGuesses
