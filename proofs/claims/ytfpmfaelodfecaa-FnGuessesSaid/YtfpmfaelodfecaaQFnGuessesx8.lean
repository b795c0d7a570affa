import Derived.Test.YtfpmfaelodfecaaQFnGuessesx0
import Derived.Test.YtfpmfaelodfecaaQFnGuessesx7
import Derived.Test.YtfpmfaelodfecaaVMSh2
import Derived.Test.YtfpmfaelodfecaaQFnGuessesx6
namespace Go.Proofs.Ytfpmfaelodfecaa.QFnGuesses
open Go.RowKit Go.Proofs.YtfpmfaelodfecaaW.PrintWords Go.Proofs.YtfpmfaelodfecaaW.PrintLast Go.Proofs.YtfpmfaelodfecaaW.PrintMore Go.Proofs.Ytfpmfaelodfecaa.Sh
attribute [local go_sem] max2_int min2_int max_two min_two max_three min_three max_four min_four
set_option linter.unusedVariables false
set_option linter.unusedSimpArgs false
set_option maxHeartbeats 8000000
set_option maxRecDepth 100000
-- shrunk

/-! ### impl_Within: function 106 -/
def impl_Within.f (k : Nat) (a0 : ByteArray) (a1 : ByteArray) (a2 : Int) : Option (Bool) := (impl_Far.f k a0 a1).bind fun t234 => (if t234 ≥ 0 then (some (decide (t234 ≤ a2))) else (some false))
theorem impl_Within.calls (k : Nat) (a0 : ByteArray) (a1 : ByteArray) (a2 : Int) (r : Bool) (w : World) (h : impl_Within.f k a0 a1 a2 = some r) :
  Calls Try.prog 106 #[.string a0, .string a1, .int .i64 a2] w fun e w' => e = .returned (.bool r) ∧ Below w.heap.size w w' := by
 have HB := am (Below.refl w.heap.size w)
 have H : ((impl_Far.f k a0 a1).bind fun t234 => (if t234 ≥ 0 then (some (decide (t234 ≤ a2))) else (some false))) = some r := h
 clear h; replace H := bs H; obtain ⟨t234, A40, H⟩ := H; replace H : (if t234 ≥ 0 then (some (decide (t234 ≤ a2))) else (some false)) = some r := H; have A4 := Aside0.mk A40; clear A40
 by_cases c5 : t234 ≥ 0
 ·rw [if_pos c5] at H; have c5b0 := decide_eq_true c5; clear c5; obtain rfl := Option.some.inj H; go_enter Try.func106, Try.ntmps106
  go_wp2_with (first | ((with_reducible refine gate_callee (f := 23) rfl ?_); refine goesL_ (some 10) rfl rfl Try.func23 (by kernel_rfl) rfl #[.string a0, .string a1] rfl mq ?_; (with_reducible refine (impl_Far.calls k a0 a1 t234 _ A4.out).mono ?_); rintro e w6 ⟨rfl, hb⟩; refine ⟨_, rfl, ?_⟩; replace HB := am (below_step bel hb); (try clear hb); (try clear hb2); (try clear hk); (try clear hi)))
  go_ret
  exact ⟨eq_, bel⟩
 rw [if_neg c5] at H; have c5b0 := decide_eq_false c5; clear c5; obtain rfl := Option.some.inj H; go_enter Try.func106, Try.ntmps106
 go_wp2_with (first | ((with_reducible refine gate_callee (f := 23) rfl ?_); refine goesL_ (some 10) rfl rfl Try.func23 (by kernel_rfl) rfl #[.string a0, .string a1] rfl mq ?_; (with_reducible refine (impl_Far.calls k a0 a1 t234 _ A4.out).mono ?_); rintro e w7 ⟨rfl, hb⟩; refine ⟨_, rfl, ?_⟩; replace HB := am (below_step bel hb); (try clear hb); (try clear hb2); (try clear hk); (try clear hi)))
 go_ret
 exact ⟨eq_, bel⟩

/-! ### cmp_Or_int: function 135 -/
def cmp_Or_int.l0 : Nat → Int → List Int → Int → Int → Option (Int)
 | 0, _, _, _, _ => none
 | k + 1, x3, x6, x7, x8 => if x8 < x7 then (if 0 ≤ x8 then (if x8 < (x6.length : Int) then (if (rd x6 x8) = x3 then (cmp_Or_int.l0 k x3 x6 x7 (wrap64 (x8 + 1))) else (some (rd x6 x8))) else (none)) else (none)) else (some x3)
def cmp_Or_int.f (k : Nat) (l0 : List Int) : Option (Int) := cmp_Or_int.l0 k 0 l0 (l0.length : Int) 0
theorem cmp_Or_int.calls (k : Nat) (A0 : Option Addr) (c0 : Nat) (l0 : List Int) (r : Int) (w : World) (hr0 : Kd.C (Kd.int .i64) w A0 l0.length l0) (hc0 : l0.length ≤ c0) (h : cmp_Or_int.f k l0 = some r) :
  Calls Try.prog 135 #[.slice A0 l0.length c0] w fun e w' => e = .returned (.int .i64 r) ∧ Drawn0 w w' := by
 have HR0 := am hr0; have HC0 := am hc0; clear hr0 hc0
 have H : (cmp_Or_int.l0 k 0 l0 (l0.length : Int) 0) = some r := h
 clear h
 have H' := am H
 clear H; go_enter Try.func135, Try.ntmps135; go_wp2
 go_loopg [8] k (fun kq v8 w' => ∃ (x8_1 : Int), v8 = .int .i64 x8_1 ∧ Aside0 (cmp_Or_int.l0 kq 0 l0 (l0.length : Int) x8_1 = some r) ∧ Aside0 (kq ≤ k) ∧ Drawn0 w w')
 case atStart => exact ⟨(0), sq, H', ⟨Nat.le_refl _⟩, dr⟩
 case round =>
  clear H'; (try clear c1); obtain ⟨x8_1, rfl, HA, HK1, ⟨m1, rfl⟩⟩ := hrel
  cases gk with
  | zero => exact absurd HA.out (by simp [cmp_Or_int.l0])
  | succ k1 =>
   have H := HA.out; clear HA
   simp only [cmp_Or_int.l0] at H
   by_cases c2 : x8_1 < (l0.length : Int)
   ·rw [if_pos c2] at H; have c2b0 := decide_eq_true c2; clear c2
    replace H := it H; obtain ⟨c3b0, H⟩ := H
    replace H := it H; obtain ⟨c4b0, H⟩ := H
    by_cases c5 : (rd l0 x8_1) = 0
    ·rw [if_pos c5] at H
     have c5b0 : ((rd l0 x8_1) == 0) = true := beq_iff_eq.mpr c5
     have c5b1 : ((rd l0 x8_1) != 0) = false := bne_eq_false_iff_eq.mpr c5
     clear c5
     have H' := am H
     clear H
     have p235 : 0 ≤ (x8_1 : Int) := of_decide_eq_true ad
     have q235 : x8_1 < (l0.length : Int) := of_decide_eq_true ad
     obtain ⟨ad235, e235, hx235_0⟩ := Kd.at_int HR0.out x8_1 p235 q235
     cases e235
     replace p235 := eq_true p235; replace q235 := eq_true q235; go_wp2
     go_roundg k1
     case measure => have := HK1.out; omega
     case rel => exact ⟨(wrap64 (x8_1 + 1)), sq, H', ⟨b53_⟩, dr⟩
    rw [if_neg c5] at H
    have c5b0 : ((rd l0 x8_1) == 0) = false := beq_eq_false_iff_ne.mpr c5
    have c5b1 : ((rd l0 x8_1) != 0) = true := bne_iff_ne.mpr c5
    obtain rfl := Option.some.inj H
    have p235 : 0 ≤ (x8_1 : Int) := of_decide_eq_true ad
    have q235 : x8_1 < (l0.length : Int) := of_decide_eq_true ad
    obtain ⟨ad235, e235, hx235_0⟩ := Kd.at_int HR0.out x8_1 p235 q235
    cases e235
    replace p235 := eq_true p235; replace q235 := eq_true q235; go_wp2; go_ret
    exact ⟨sq, dr⟩
   rw [if_neg c2] at H; have c2b0 := decide_eq_false c2; clear c2; obtain rfl := Option.some.inj H; go_wp2; go_ret
   exact ⟨sq, dr⟩

/-! ### cmp_isNaN_int: function 161 -/
def cmp_isNaN_int.f (a0 : Int) : Option (Bool) := some (a0 != a0)
theorem cmp_isNaN_int.calls (a0 : Int) (r : Bool) (w : World) (h : cmp_isNaN_int.f a0 = some r) :
  Calls Try.prog 161 #[.int .i64 a0] w fun e w' => e = .returned (.bool r) ∧ Drawn0 w w' := by
 have H : (some (a0 != a0)) = some r := h
 clear h; obtain rfl := Option.some.inj H; go_enter Try.func161, Try.ntmps161; go_wp2; go_ret
 exact ⟨sq, dr⟩

/-! ### cmp_Compare_int: function 136 -/
def cmp_Compare_int.f (a0 : Int) (a1 : Int) : Option (Int) := (cmp_isNaN_int.f a0).bind fun t236 => ((cmp_isNaN_int.f a1).bind fun t237 => (if t236 = true then (if t237 = true then (some 0) else (some (-1))) else (if t237 = true then (some 1) else (if a0 < a1 then (some (-1)) else (if a0 > a1 then (some 1) else (some 0))))))
theorem cmp_Compare_int.calls (a0 : Int) (a1 : Int) (r : Int) (w : World) (h : cmp_Compare_int.f a0 a1 = some r) :
  Calls Try.prog 136 #[.int .i64 a0, .int .i64 a1] w fun e w' => e = .returned (.int .i64 r) ∧ Drawn0 w w' := by
 have H : ((cmp_isNaN_int.f a0).bind fun t236 => ((cmp_isNaN_int.f a1).bind fun t237 => (if t236 = true then (if t237 = true then (some 0) else (some (-1))) else (if t237 = true then (some 1) else (if a0 < a1 then (some (-1)) else (if a0 > a1 then (some 1) else (some 0))))))) = some r := h
 clear h; replace H := bs H; obtain ⟨t236, A30, H⟩ := H; replace H : ((cmp_isNaN_int.f a1).bind fun t237 => (if t236 = true then (if t237 = true then (some 0) else (some (-1))) else (if t237 = true then (some 1) else (if a0 < a1 then (some (-1)) else (if a0 > a1 then (some 1) else (some 0)))))) = some r := H; have A3 := Aside0.mk A30; clear A30; replace H := bs H; obtain ⟨t237, A40, H⟩ := H; replace H : (if t236 = true then (if t237 = true then (some 0) else (some (-1))) else (if t237 = true then (some 1) else (if a0 < a1 then (some (-1)) else (if a0 > a1 then (some 1) else (some 0))))) = some r := H; have A4 := Aside0.mk A40; clear A40
 by_cases c5 : t236 = true
 ·subst c5
  have H1 : (if t237 = true then (some 0) else (some (-1))) = some r := b19_
  replace H := H1; clear H1
  by_cases c6 : t237 = true
  ·subst c6
   have H1 : (some 0) = some r := b19_
   replace H := H1; clear H1
   obtain rfl := Option.some.inj H; go_enter Try.func136, Try.ntmps136
   go_wp2_with (first | ((with_reducible refine gate_callee (f := 161) rfl ?_); refine goesL_ (some 8) rfl rfl Try.func161 (by kernel_rfl) rfl #[.int .i64 a0] rfl mq ?_; (with_reducible refine (cmp_isNaN_int.calls a0 true _ A3.out).mono ?_); rintro e w' ⟨rfl, ⟨nd, rfl⟩⟩; refine ⟨_, rfl, ?_⟩) | ((with_reducible refine gate_callee (f := 161) rfl ?_); refine goesL_ (some 10) rfl rfl Try.func161 (by kernel_rfl) rfl #[.int .i64 a1] rfl mq ?_; (with_reducible refine (cmp_isNaN_int.calls a1 true _ A4.out).mono ?_); rintro e w' ⟨rfl, ⟨nd, rfl⟩⟩; refine ⟨_, rfl, ?_⟩))
   go_ret
   exact ⟨sq, dr⟩
  replace c6 := Bool.eq_false_iff.mpr c6; subst c6
  have H1 : (some (-1)) = some r := b7_
  replace H := H1; clear H1
  obtain rfl := Option.some.inj H; go_enter Try.func136, Try.ntmps136
  go_wp2_with (first | ((with_reducible refine gate_callee (f := 161) rfl ?_); refine goesL_ (some 8) rfl rfl Try.func161 (by kernel_rfl) rfl #[.int .i64 a0] rfl mq ?_; (with_reducible refine (cmp_isNaN_int.calls a0 true _ A3.out).mono ?_); rintro e w' ⟨rfl, ⟨nd, rfl⟩⟩; refine ⟨_, rfl, ?_⟩) | ((with_reducible refine gate_callee (f := 161) rfl ?_); refine goesL_ (some 10) rfl rfl Try.func161 (by kernel_rfl) rfl #[.int .i64 a1] rfl mq ?_; (with_reducible refine (cmp_isNaN_int.calls a1 false _ A4.out).mono ?_); rintro e w' ⟨rfl, ⟨nd, rfl⟩⟩; refine ⟨_, rfl, ?_⟩))
  go_ret
  exact ⟨sq, dr⟩
 replace c5 := Bool.eq_false_iff.mpr c5; subst c5
 have H1 : (if t237 = true then (some 1) else (if a0 < a1 then (some (-1)) else (if a0 > a1 then (some 1) else (some 0)))) = some r := b7_
 replace H := H1; clear H1
 by_cases c7 : t237 = true
 ·subst c7
  have H1 : (some 1) = some r := b19_
  replace H := H1; clear H1
  obtain rfl := Option.some.inj H; go_enter Try.func136, Try.ntmps136
  go_wp2_with (first | ((with_reducible refine gate_callee (f := 161) rfl ?_); refine goesL_ (some 8) rfl rfl Try.func161 (by kernel_rfl) rfl #[.int .i64 a0] rfl mq ?_; (with_reducible refine (cmp_isNaN_int.calls a0 false _ A3.out).mono ?_); rintro e w' ⟨rfl, ⟨nd, rfl⟩⟩; refine ⟨_, rfl, ?_⟩) | ((with_reducible refine gate_callee (f := 161) rfl ?_); refine goesL_ (some 10) rfl rfl Try.func161 (by kernel_rfl) rfl #[.int .i64 a1] rfl mq ?_; (with_reducible refine (cmp_isNaN_int.calls a1 true _ A4.out).mono ?_); rintro e w' ⟨rfl, ⟨nd, rfl⟩⟩; refine ⟨_, rfl, ?_⟩))
  go_ret
  exact ⟨sq, dr⟩
 replace c7 := Bool.eq_false_iff.mpr c7; subst c7
 have H1 : (if a0 < a1 then (some (-1)) else (if a0 > a1 then (some 1) else (some 0))) = some r := b7_
 replace H := H1; clear H1
 by_cases c8 : a0 < a1
 ·rw [if_pos c8] at H; have c8b0 := decide_eq_true c8; clear c8; obtain rfl := Option.some.inj H; go_enter Try.func136, Try.ntmps136
  go_wp2_with (first | ((with_reducible refine gate_callee (f := 161) rfl ?_); refine goesL_ (some 8) rfl rfl Try.func161 (by kernel_rfl) rfl #[.int .i64 a0] rfl mq ?_; (with_reducible refine (cmp_isNaN_int.calls a0 false _ A3.out).mono ?_); rintro e w' ⟨rfl, ⟨nd, rfl⟩⟩; refine ⟨_, rfl, ?_⟩) | ((with_reducible refine gate_callee (f := 161) rfl ?_); refine goesL_ (some 10) rfl rfl Try.func161 (by kernel_rfl) rfl #[.int .i64 a1] rfl mq ?_; (with_reducible refine (cmp_isNaN_int.calls a1 false _ A4.out).mono ?_); rintro e w' ⟨rfl, ⟨nd, rfl⟩⟩; refine ⟨_, rfl, ?_⟩))
  go_ret
  exact ⟨sq, dr⟩
 rw [if_neg c8] at H; have c8b0 := decide_eq_false c8; clear c8
 by_cases c9 : a0 > a1
 ·rw [if_pos c9] at H; have c9b0 := decide_eq_true c9; clear c9; obtain rfl := Option.some.inj H; go_enter Try.func136, Try.ntmps136
  go_wp2_with (first | ((with_reducible refine gate_callee (f := 161) rfl ?_); refine goesL_ (some 8) rfl rfl Try.func161 (by kernel_rfl) rfl #[.int .i64 a0] rfl mq ?_; (with_reducible refine (cmp_isNaN_int.calls a0 false _ A3.out).mono ?_); rintro e w' ⟨rfl, ⟨nd, rfl⟩⟩; refine ⟨_, rfl, ?_⟩) | ((with_reducible refine gate_callee (f := 161) rfl ?_); refine goesL_ (some 10) rfl rfl Try.func161 (by kernel_rfl) rfl #[.int .i64 a1] rfl mq ?_; (with_reducible refine (cmp_isNaN_int.calls a1 false _ A4.out).mono ?_); rintro e w' ⟨rfl, ⟨nd, rfl⟩⟩; refine ⟨_, rfl, ?_⟩))
  go_ret
  exact ⟨sq, dr⟩
 rw [if_neg c9] at H; have c9b0 := decide_eq_false c9; clear c9; obtain rfl := Option.some.inj H; go_enter Try.func136, Try.ntmps136
 go_wp2_with (first | ((with_reducible refine gate_callee (f := 161) rfl ?_); refine goesL_ (some 8) rfl rfl Try.func161 (by kernel_rfl) rfl #[.int .i64 a0] rfl mq ?_; (with_reducible refine (cmp_isNaN_int.calls a0 false _ A3.out).mono ?_); rintro e w' ⟨rfl, ⟨nd, rfl⟩⟩; refine ⟨_, rfl, ?_⟩) | ((with_reducible refine gate_callee (f := 161) rfl ?_); refine goesL_ (some 10) rfl rfl Try.func161 (by kernel_rfl) rfl #[.int .i64 a1] rfl mq ?_; (with_reducible refine (cmp_isNaN_int.calls a1 false _ A4.out).mono ?_); rintro e w' ⟨rfl, ⟨nd, rfl⟩⟩; refine ⟨_, rfl, ?_⟩))
 go_ret
 exact ⟨sq, dr⟩

/-! ### cmp_isNaN_string: function 162 -/
def cmp_isNaN_string.f (a0 : ByteArray) : Option (Bool) := some (a0.toList != a0.toList)
theorem cmp_isNaN_string.calls (a0 : ByteArray) (r : Bool) (w : World) (h : cmp_isNaN_string.f a0 = some r) :
  Calls Try.prog 162 #[.string a0] w fun e w' => e = .returned (.bool r) ∧ Drawn0 w w' := by
 have H : (some (a0.toList != a0.toList)) = some r := h
 clear h; obtain rfl := Option.some.inj H; go_enter Try.func162, Try.ntmps162; go_wp2; go_ret
 exact ⟨sq, dr⟩

/-! ### cmp_Compare_string: function 137 -/
def cmp_Compare_string.f (a0 : ByteArray) (a1 : ByteArray) : Option (Int) := (cmp_isNaN_string.f a0).bind fun t238 => ((cmp_isNaN_string.f a1).bind fun t239 => (if t238 = true then (if t239 = true then (some 0) else (some (-1))) else (if t239 = true then (some 1) else (if (Op.bytesLess a0.toList a1.toList) = true then (some (-1)) else (if (Op.bytesLess a1.toList a0.toList) = true then (some 1) else (some 0))))))
theorem cmp_Compare_string.ne : ∀ {a b : List UInt8}, Op.bytesLess b a = true → (a == b) = false
 | [], [], h => by simp [Op.bytesLess] at h
 | [], _ :: _, h => by rfl
 | _ :: _, [], h => by rfl
 | x :: a, y :: b, h => by
  rw [List.cons_beq_cons]
  by_cases e : x = y
  ·subst e
   have h' : Op.bytesLess b a = true := by simpa [Op.bytesLess] using h
   rw [cmp_Compare_string.ne h', Bool.and_false]
  ·simp [e]
theorem cmp_Compare_string.eq : ∀ {a b : List UInt8}, Op.bytesLess a b = false → Op.bytesLess b a = false → (a == b) = true
 | [], [], _, _ => rfl
 | [], _ :: _, h, _ => by simp [Op.bytesLess] at h
 | _ :: _, [], _, h => by simp [Op.bytesLess] at h
 | x :: a, y :: b, h, h2 => by
  have e : x = y := by
   by_cases c : x < y
   ·simp [Op.bytesLess, c] at h
   ·by_cases c2 : y < x
    ·simp [Op.bytesLess, c2] at h2
    exact UInt8.le_antisymm (UInt8.not_lt.1 c2) (UInt8.not_lt.1 c)
  subst e
  rw [List.cons_beq_cons, cmp_Compare_string.eq (a := a) (b := b) (by simpa [Op.bytesLess] using h) (by simpa [Op.bytesLess] using h2)]
  simp
theorem cmp_Compare_string.calls (a0 : ByteArray) (a1 : ByteArray) (r : Int) (w : World) (h : cmp_Compare_string.f a0 a1 = some r) :
  Calls Try.prog 137 #[.string a0, .string a1] w fun e w' => e = .returned (.int .i64 r) ∧ Drawn0 w w' := by
 have H : ((cmp_isNaN_string.f a0).bind fun t238 => ((cmp_isNaN_string.f a1).bind fun t239 => (if t238 = true then (if t239 = true then (some 0) else (some (-1))) else (if t239 = true then (some 1) else (if (Op.bytesLess a0.toList a1.toList) = true then (some (-1)) else (if (Op.bytesLess a1.toList a0.toList) = true then (some 1) else (some 0))))))) = some r := h
 clear h; replace H := bs H; obtain ⟨t238, A30, H⟩ := H; replace H : ((cmp_isNaN_string.f a1).bind fun t239 => (if t238 = true then (if t239 = true then (some 0) else (some (-1))) else (if t239 = true then (some 1) else (if (Op.bytesLess a0.toList a1.toList) = true then (some (-1)) else (if (Op.bytesLess a1.toList a0.toList) = true then (some 1) else (some 0)))))) = some r := H; have A3 := Aside0.mk A30; clear A30; replace H := bs H; obtain ⟨t239, A40, H⟩ := H; replace H : (if t238 = true then (if t239 = true then (some 0) else (some (-1))) else (if t239 = true then (some 1) else (if (Op.bytesLess a0.toList a1.toList) = true then (some (-1)) else (if (Op.bytesLess a1.toList a0.toList) = true then (some 1) else (some 0))))) = some r := H; have A4 := Aside0.mk A40; clear A40
 by_cases c5 : t238 = true
 ·subst c5
  have H1 : (if t239 = true then (some 0) else (some (-1))) = some r := b19_
  replace H := H1; clear H1
  by_cases c6 : t239 = true
  ·subst c6
   have H1 : (some 0) = some r := b19_
   replace H := H1; clear H1
   obtain rfl := Option.some.inj H; go_enter Try.func137, Try.ntmps137
   go_wp2_with (first | ((with_reducible refine gate_callee (f := 162) rfl ?_); refine goesL_ (some 8) rfl rfl Try.func162 (by kernel_rfl) rfl #[.string a0] rfl mq ?_; (with_reducible refine (cmp_isNaN_string.calls a0 true _ A3.out).mono ?_); rintro e w' ⟨rfl, ⟨nd, rfl⟩⟩; refine ⟨_, rfl, ?_⟩) | ((with_reducible refine gate_callee (f := 162) rfl ?_); refine goesL_ (some 10) rfl rfl Try.func162 (by kernel_rfl) rfl #[.string a1] rfl mq ?_; (with_reducible refine (cmp_isNaN_string.calls a1 true _ A4.out).mono ?_); rintro e w' ⟨rfl, ⟨nd, rfl⟩⟩; refine ⟨_, rfl, ?_⟩))
   go_ret
   exact ⟨sq, dr⟩
  replace c6 := Bool.eq_false_iff.mpr c6; subst c6
  have H1 : (some (-1)) = some r := b7_
  replace H := H1; clear H1
  obtain rfl := Option.some.inj H; go_enter Try.func137, Try.ntmps137
  go_wp2_with (first | ((with_reducible refine gate_callee (f := 162) rfl ?_); refine goesL_ (some 8) rfl rfl Try.func162 (by kernel_rfl) rfl #[.string a0] rfl mq ?_; (with_reducible refine (cmp_isNaN_string.calls a0 true _ A3.out).mono ?_); rintro e w' ⟨rfl, ⟨nd, rfl⟩⟩; refine ⟨_, rfl, ?_⟩) | ((with_reducible refine gate_callee (f := 162) rfl ?_); refine goesL_ (some 10) rfl rfl Try.func162 (by kernel_rfl) rfl #[.string a1] rfl mq ?_; (with_reducible refine (cmp_isNaN_string.calls a1 false _ A4.out).mono ?_); rintro e w' ⟨rfl, ⟨nd, rfl⟩⟩; refine ⟨_, rfl, ?_⟩))
  go_ret
  exact ⟨sq, dr⟩
 replace c5 := Bool.eq_false_iff.mpr c5; subst c5
 have H1 : (if t239 = true then (some 1) else (if (Op.bytesLess a0.toList a1.toList) = true then (some (-1)) else (if (Op.bytesLess a1.toList a0.toList) = true then (some 1) else (some 0)))) = some r := b7_
 replace H := H1; clear H1
 by_cases c7 : t239 = true
 ·subst c7
  have H1 : (some 1) = some r := b19_
  replace H := H1; clear H1
  obtain rfl := Option.some.inj H; go_enter Try.func137, Try.ntmps137
  go_wp2_with (first | ((with_reducible refine gate_callee (f := 162) rfl ?_); refine goesL_ (some 8) rfl rfl Try.func162 (by kernel_rfl) rfl #[.string a0] rfl mq ?_; (with_reducible refine (cmp_isNaN_string.calls a0 false _ A3.out).mono ?_); rintro e w' ⟨rfl, ⟨nd, rfl⟩⟩; refine ⟨_, rfl, ?_⟩) | ((with_reducible refine gate_callee (f := 162) rfl ?_); refine goesL_ (some 10) rfl rfl Try.func162 (by kernel_rfl) rfl #[.string a1] rfl mq ?_; (with_reducible refine (cmp_isNaN_string.calls a1 true _ A4.out).mono ?_); rintro e w' ⟨rfl, ⟨nd, rfl⟩⟩; refine ⟨_, rfl, ?_⟩))
  go_ret
  exact ⟨sq, dr⟩
 replace c7 := Bool.eq_false_iff.mpr c7; subst c7
 have H1 : (if (Op.bytesLess a0.toList a1.toList) = true then (some (-1)) else (if (Op.bytesLess a1.toList a0.toList) = true then (some 1) else (some 0))) = some r := b7_
 replace H := H1; clear H1
 by_cases c8 : (Op.bytesLess a0.toList a1.toList) = true
 ·rw [if_pos c8] at H
  have c8b0 : (Op.bytesLess a0.toList a1.toList) = true := c8
  clear c8; obtain rfl := Option.some.inj H; go_enter Try.func137, Try.ntmps137
  go_wp2_with (first | ((with_reducible refine gate_callee (f := 162) rfl ?_); refine goesL_ (some 8) rfl rfl Try.func162 (by kernel_rfl) rfl #[.string a0] rfl mq ?_; (with_reducible refine (cmp_isNaN_string.calls a0 false _ A3.out).mono ?_); rintro e w' ⟨rfl, ⟨nd, rfl⟩⟩; refine ⟨_, rfl, ?_⟩) | ((with_reducible refine gate_callee (f := 162) rfl ?_); refine goesL_ (some 10) rfl rfl Try.func162 (by kernel_rfl) rfl #[.string a1] rfl mq ?_; (with_reducible refine (cmp_isNaN_string.calls a1 false _ A4.out).mono ?_); rintro e w' ⟨rfl, ⟨nd, rfl⟩⟩; refine ⟨_, rfl, ?_⟩))
  go_ret
  exact ⟨sq, dr⟩
 rw [if_neg c8] at H
 have c8b0 : (Op.bytesLess a0.toList a1.toList) = false := by simpa using c8
 clear c8
 by_cases c9 : (Op.bytesLess a1.toList a0.toList) = true
 ·rw [if_pos c9] at H
  have c9b0 : (Op.bytesLess a1.toList a0.toList) = true := c9
  clear c9
  have c9e0 : (a0.toList == a1.toList) = false := cmp_Compare_string.ne c9b0
  obtain rfl := Option.some.inj H; go_enter Try.func137, Try.ntmps137
  go_wp2_with (first | ((with_reducible refine gate_callee (f := 162) rfl ?_); refine goesL_ (some 8) rfl rfl Try.func162 (by kernel_rfl) rfl #[.string a0] rfl mq ?_; (with_reducible refine (cmp_isNaN_string.calls a0 false _ A3.out).mono ?_); rintro e w' ⟨rfl, ⟨nd, rfl⟩⟩; refine ⟨_, rfl, ?_⟩) | ((with_reducible refine gate_callee (f := 162) rfl ?_); refine goesL_ (some 10) rfl rfl Try.func162 (by kernel_rfl) rfl #[.string a1] rfl mq ?_; (with_reducible refine (cmp_isNaN_string.calls a1 false _ A4.out).mono ?_); rintro e w' ⟨rfl, ⟨nd, rfl⟩⟩; refine ⟨_, rfl, ?_⟩))
  go_ret
  exact ⟨sq, dr⟩
 rw [if_neg c9] at H
 have c9b0 : (Op.bytesLess a1.toList a0.toList) = false := by simpa using c9
 clear c9
 have c9e0 : (a0.toList == a1.toList) = true := cmp_Compare_string.eq c8b0 c9b0
 obtain rfl := Option.some.inj H; go_enter Try.func137, Try.ntmps137
 go_wp2_with (first | ((with_reducible refine gate_callee (f := 162) rfl ?_); refine goesL_ (some 8) rfl rfl Try.func162 (by kernel_rfl) rfl #[.string a0] rfl mq ?_; (with_reducible refine (cmp_isNaN_string.calls a0 false _ A3.out).mono ?_); rintro e w' ⟨rfl, ⟨nd, rfl⟩⟩; refine ⟨_, rfl, ?_⟩) | ((with_reducible refine gate_callee (f := 162) rfl ?_); refine goesL_ (some 10) rfl rfl Try.func162 (by kernel_rfl) rfl #[.string a1] rfl mq ?_; (with_reducible refine (cmp_isNaN_string.calls a1 false _ A4.out).mono ?_); rintro e w' ⟨rfl, ⟨nd, rfl⟩⟩; refine ⟨_, rfl, ?_⟩))
 go_ret
 exact ⟨sq, dr⟩

/-! ### impl_guessOrder: function 108 -/
/-- What is behind: draws and new blocks alone. -/
def impl_guessOrder.Gr (w W : World) : Prop := ∃ q os', W = Go.Sort.grow (w.drewN q) os'
theorem impl_guessOrder.Gr.refl (w : World) : impl_guessOrder.Gr w w := ⟨0, #[], by rw [Go.Sort.grow_empty]; rfl⟩
theorem impl_guessOrder.Gr.drewN {w W : World} (h : impl_guessOrder.Gr w W) (n : Nat) : impl_guessOrder.Gr w (W.drewN n) := by
 obtain ⟨q, os, rfl⟩ := h
 exact ⟨q + n, os, by rw [← World.drewN_drewN]; rfl⟩
theorem impl_guessOrder.Gr.drew {w W : World} (h : impl_guessOrder.Gr w W) : impl_guessOrder.Gr w W.drew := h.drewN 1
theorem impl_guessOrder.Gr.alloc {w W : World} (h : impl_guessOrder.Gr w W) (o : Obj) : impl_guessOrder.Gr w (W.alloc o) := by
 obtain ⟨q, os, rfl⟩ := h
 exact ⟨q, os ++ #[o], by rw [Go.Sort.alloc_eq_grow, Go.Sort.grow_grow]⟩
section
variable {P : Program} {ops : Array Oper} {rest : List Oper} {o : Oper} {a : Act} {Q : Exit → Act → World → Prop} {Kc : Act → World → Prop}
theorem impl_guessOrder.box {w W : World} (HG : impl_guessOrder.Gr w W) (hgd : o.guard = none) {N : Tmp} (_hd : o.dst = some N) {cs : Array Value} {t : TypeId}
  (hrun : (execOp a.eval o).run P W = .ok (.value (.pointer (some ⟨W.heap.size, 0, none⟩))) (W.alloc (.cells cs t (0, 0))))
  (h : ∀ g, g = W.heap.size → ∀ w1, w1.heap[g]? = some (.cells cs t (0, 0)) → Below W.heap.size W w1 → impl_guessOrder.Gr w w1 → wpList P ops Q rest (a.put o.dst (.pointer (some ⟨g, 0, none⟩))) w1) : wpList P ops Q (o :: rest) a W :=
 Kd.event_run hgd hrun (h _ rfl _ (blk_new W _) (below_alloc (Below.refl _ _) _) (HG.alloc _))
theorem impl_guessOrder.lit {α : Type} {w W : World} (HG : impl_guessOrder.Gr w W) (d : Kd α) {w0 : World} (base e : Nat) (hw : Region.wanted o (yielded ops a.tmps) = true) {N : Tmp} (hd : o.dst = some N) {xs : List α} {inner : List Value} {ok okp : Nat → Prop}
  (hrun : (execOp a.eval o).run P W = .ok (.value (.slice (some ⟨W.heap.size, 0, none⟩) xs.length xs.length)) (W.alloc (.cells inner.toArray e)))
  (hrep : Reps (d.M W base okp) d.sz xs inner) (hok : ∀ k, okp k → ok k) (hfresh : ok W.heap.size) (HB : Below base w0 W) (hbase : base ≤ W.heap.size) (hm : xs.length ≤ 9223372036854775807)
  (h : ∀ v1 w1, d.R e w1 base ok v1 xs → Below base w0 w1 → W.grownBy w1 none → (∃ b, v1.ownBlock = some b ∧ W.heap.size ≤ b) → impl_guessOrder.Gr w w1 → Kc (a.put o.dst v1) w1) : if Region.wanted o (yielded ops a.tmps) = true then Oper.wp P o a W Kc Q else Kc (a.put o.dst undef) W := by
 have h0 := Kd.R_lit_step (P := P) (Q := Q) (Kc := fun a' w' => ∃ v1, a' = a.put o.dst v1 ∧ d.R e w' base ok v1 xs ∧ Below base w0 w' ∧ W.grownBy w' none ∧ (∃ b, v1.ownBlock = some b ∧ W.heap.size ≤ b)) d base e hw hd hrun hrep hok hfresh HB hbase hm (fun v1 w1 z1 z2 z3 z4 => ⟨v1, rfl, z1, z2, z3, z4⟩)
 rw [if_pos hw] at h0 ⊢
 unfold Oper.wp at h0 ⊢
 rw [hrun] at h0 ⊢
 obtain ⟨v1, e1, z1, z2, z3, z4⟩ := h0
 show Kc _ _
 rw [e1]
 exact h v1 _ z1 z2 z3 z4 (HG.alloc _)
end
def impl_guessOrder.f (k : Nat) (a0_0 : ByteArray) (a0_1 : Int) (a1_0 : ByteArray) (a1_1 : Int) : Option (Int) := (cmp_Compare_int.f a0_1 a1_1).bind fun t248 => ((cmp_Compare_string.f a0_0 a1_0).bind fun t249 => ((cmp_Or_int.f k (([t248, t249] : List Int))).bind fun t253 => (some t253)))
def impl_guessOrder.T1 : Bool × List (List Nat × List Nat) := (true, [([], []), ([0], [0]), ([], []), ([2], [2]), ([1, 3], [1, 3]), ([], []), ([5], [5]), ([], []), ([7], [7]), ([6, 8, 4], [6, 8]), ([4, 9], [4, 9]), ([10, 9], [10]), ([11, 11, 0, 1, 2, 3, 4, 5, 6, 7, 8, 9, 10, 11], [11])])
def impl_guessOrder.B1 : List Nat := [0, 1, 0, 4, 15, 0, 32, 0, 128, 511, 1023, 2047, 4095]
theorem impl_guessOrder.tab1 : rtab .any (opsOf Try.f108 1) = impl_guessOrder.T1 := by kernel_rfl
theorem impl_guessOrder.bits1 : waitsOk impl_guessOrder.T1.2 impl_guessOrder.B1 = true := by kernel_rfl
theorem impl_guessOrder.calls (k : Nat) (a0_0 : ByteArray) (a0_1 : Int) (a1_0 : ByteArray) (a1_1 : Int) (r : Int) (w : World) (h : impl_guessOrder.f k a0_0 a0_1 a1_0 a1_1 = some r) :
  Calls Try.prog 108 #[.agg #[.string a0_0, .int .i64 a0_1], .agg #[.string a1_0, .int .i64 a1_1]] w fun e w' => e = .returned (.int .i64 r) ∧ ∃ q os', w' = Go.Sort.grow (w.drewN q) os' := by
 have hu36 := Try.underlying36; have HB := am (Below.refl w.heap.size w); have HG := am (impl_guessOrder.Gr.refl w)
 have H : ((cmp_Compare_int.f a0_1 a1_1).bind fun t248 => ((cmp_Compare_string.f a0_0 a1_0).bind fun t249 => ((cmp_Or_int.f k (([t248, t249] : List Int))).bind fun t253 => (some t253)))) = some r := h
 clear h; replace H := bs H; obtain ⟨t248, A30, H⟩ := H; replace H : ((cmp_Compare_string.f a0_0 a1_0).bind fun t249 => ((cmp_Or_int.f k (([t248, t249] : List Int))).bind fun t253 => (some t253))) = some r := H; have A3 := Aside0.mk A30; clear A30; replace H := bs H; obtain ⟨t249, A40, H⟩ := H; replace H : ((cmp_Or_int.f k (([t248, t249] : List Int))).bind fun t253 => (some t253)) = some r := H; have A4 := Aside0.mk A40; clear A40; obtain ⟨y250, hy250⟩ : ∃ y_ : List Int, y_ = (([t248, t249] : List Int)) := ⟨_, rfl⟩
 replace H : ((cmp_Or_int.f k y250).bind fun t253 => (some t253)) = some r := by first | (rw [hy250]; with_reducible exact H) | (have H2_ := bm H; rw [hy250]; with_reducible exact H2_) | (with_reducible exact bm H) | with_reducible exact H | (rw [hy250]; exact H) | exact H
 have Ny250 := am hy250; clear hy250; replace H := bs H; obtain ⟨t253, A50, H⟩ := H; replace H : (some t253) = some r := H; have A5 := Aside0.mk A50; clear A50; obtain rfl := Option.some.inj H; go_enter Try.func108, Try.ntmps108
 try go_wp2_with (first | ((with_reducible refine gate_dst (N := 2) rfl ?_); refine impl_guessOrder.box HG.out ?hg (N := 2) ?hd (cs := #[.string a0_0, .int .i64 a0_1]) (t := 36) ?hr ?_; (case hd => rfl); (case hg => rfl); (case hr => first | (go_simp; done) | (go_simp; rfl)); intro gb246 hg w6 hbox hb hgr; replace HG := am hgr; clear hgr; have BK246 := am (hbox); have GW246 := am ((b21_ : w.heap.size ≤ gb246)); have GE246 := am ((b21_ : w.heap.size ≤ gb246)); replace HB := am (below_step bel hb); clear hb hbox hg) | ((with_reducible refine gate_dst (N := 3) rfl ?_); refine impl_guessOrder.box HG.out ?hg (N := 3) ?hd (cs := #[.string a1_0, .int .i64 a1_1]) (t := 36) ?hr ?_; (case hd => rfl); (case hg => rfl); (case hr => first | (go_simp; done) | (go_simp; rfl)); intro gb247 hg w7 hbox hb hgr; replace HG := am hgr; clear hgr; have BK247 := am (hbox); have GW247 := am ((by rw [hg]; exact (below_size (bel1 GE246.out)) : w.heap.size ≤ gb247)); have GE247 := am ((by rw [hg]; exact (below_size (bel1 GE246.out)) : w.heap.size ≤ gb247)); replace HB := am (below_step (bel1 GE246.out) hb); have NB246_247 := am ((by rw [hg]; exact Nat.ne_of_lt (blk_lt (g := gb246) (o := .cells #[.string a0_0, .int .i64 a0_1] 36 (0, 0)) (bq BK246.out)) : gb246 ≠ gb247)); have NB247_246 := am ((by rw [hg]; exact Nat.ne_of_gt (blk_lt (g := gb246) (o := .cells #[.string a0_0, .int .i64 a0_1] 36 (0, 0)) (bq BK246.out)) : gb247 ≠ gb246)); replace BK246 := am (blk_below (g := gb246) (o := .cells #[.string a0_0, .int .i64 a0_1] 36 (0, 0)) (bq BK246.out) hb); clear hb hbox hg))
 have n0_ := am (blk_drew BK246.out); have n1_ := am (blk_drew BK247.out); have n2_ := am (below_drew1 HB.out); replace HG := am HG.out.drew; clear BK246; clear BK247; clear HB; have BK246 := n0_; have BK247 := n1_; have HB := n2_; clear n0_ n1_ n2_
 refine st (n := 13) (S := fun w' => w'.cell? ⟨gb246, 0, none⟩ = some (.string a0_0) ∧ w'.cell? ⟨gb246, 1, none⟩ = some (.int .i64 a0_1) ∧ w'.cell? ⟨gb247, 0, none⟩ = some (.string a1_0) ∧ w'.cell? ⟨gb247, 1, none⟩ = some (.int .i64 a1_1)) (ds := []) ⟨(blk_cell BK246.out 0).trans rfl, (blk_cell BK246.out 1).trans rfl, (blk_cell BK247.out 0).trans rfl, (blk_cell BK247.out 1).trans rfl⟩ (fun hHeld => ?_); refine with_tabW impl_guessOrder.tab1 impl_guessOrder.bits1 (fun HT_ HW_ => ?_)
 generalize w7.drew = w8 at BK246 BK247 HB HG hHeld ⊢
 refine pu 0 5 ?_
 refine pu 2 7 ?_
 refine pu 5 10 ?_
 refine pu 7 12 ?_
 refine tk4 1 6 hHeld ?_
 refine tk4 3 8 hHeld ?_
 refine tk4 6 11 hHeld ?_
 refine tk4 8 13 hHeld ?_
 refine on1 4 9 (fun K hK => ?_)
 refine goes_ Try.func136 (by kernel_rfl) rfl #[.int .i64 a0_1, .int .i64 a1_1] (by rfl) rfl rfl mq ?_
 with_reducible refine (cmp_Compare_int.calls a0_1 a1_1 t248 _ A3.out).mono ?_
 rintro e w' ⟨rfl, ⟨nd, rfl⟩⟩
 refine ⟨_, rfl, ?_⟩
 replace HG := am (HG.out.drewN nd)
 refine hK.out _ _ ⟨(blk_cell BK246.out 0).trans rfl, (blk_cell BK246.out 1).trans rfl, (blk_cell BK247.out 0).trans rfl, (blk_cell BK247.out 1).trans rfl⟩ (fun hHeld => ?_)
 clear hK K
 refine norm_ (a' := ?_) ?_ ?_
 rotate_left
 ·show Act.put _ (some 9) _ = _
  simp only [Act.put, List.setIfInBounds_toArray, List.set_cons_zero, List.set_cons_succ, i64_w, i32_w]
  rfl
 refine on1 9 14 (fun K hK => ?_)
 refine goes_ Try.func137 (by kernel_rfl) rfl #[.string a0_0, .string a1_0] (by rfl) rfl rfl mq ?_
 with_reducible refine (cmp_Compare_string.calls a0_0 a1_0 t249 _ A4.out).mono ?_
 rintro e w' ⟨rfl, ⟨nd, rfl⟩⟩
 refine ⟨_, rfl, ?_⟩
 replace HG := am (HG.out.drewN nd)
 refine hK.out _ _ ⟨(blk_cell BK246.out 0).trans rfl, (blk_cell BK246.out 1).trans rfl, (blk_cell BK247.out 0).trans rfl, (blk_cell BK247.out 1).trans rfl⟩ (fun hHeld => ?_)
 clear hK K
 refine norm_ (a' := ?_) ?_ ?_
 rotate_left
 ·show Act.put _ (some 14) _ = _
  simp only [Act.put, List.setIfInBounds_toArray, List.set_cons_zero, List.set_cons_succ, i64_w, i32_w]
  rfl
 refine on1 10 15 (fun K hK => ?_)
 refine impl_guessOrder.lit HG.out (Kd.int .i64) _ 3 ?hg (N := 15) ?hd (xs := ([t248, t249] : List Int)) (inner := [.int .i64 t248, .int .i64 t249]) (ok := fun _ => True) (okp := fun _ => True) ?hr ?hp (fun _ hk => hk) trivial (Below.refl _ _) (Nat.le_refl _) (by simp) ?_; (case hd => rfl); (case hg => rfl); (case hr => first | (go_simp; done) | (go_simp; rfl)); (case hp => exact (Reps.one (show Kd.M (Kd.int .i64) _ _ _ t248 [.int .i64 t248] from rfl) (Reps.one (show Kd.M (Kd.int .i64) _ _ _ t249 [.int .i64 t249] from rfl) (Reps.none _ _))))
 intro v251 w9 ho10 hb hg_ hnew_ hgr
 replace HG := am hgr; clear hgr
 clear hg_ hnew_
 (first | rw [← Ny250.out] at ho10 | (simp only [Int.reduceToNat] at ho10; rw [← Ny250.out] at ho10) | (simp only [Int.toNat_natCast] at ho10; rw [← Ny250.out] at ho10))
 have HO252 := am (Kd.R_lower ho10 (below_size (bel2 GE246.out GE247.out))); replace BK246 := am (blk_below (g := gb246) (o := .cells #[.string a0_0, .int .i64 a0_1] 36 (0, 0)) (bq BK246.out) hb); replace BK247 := am (blk_below (g := gb247) (o := .cells #[.string a1_0, .int .i64 a1_1] 36 (0, 0)) (bq BK247.out) hb); replace HB := am (below_step (bel2 GE246.out GE247.out) hb); clear hb ho10; obtain ⟨Ao11, co11, eo11⟩ := Kd.R_slice HO252.out
 (first | subst eo11 | (injection eo11 with f1_ f2_ f3_; have f4_ := f1_.symm; have f5_ := f3_.symm; clear f1_ f2_ f3_; subst f4_; subst f5_))
 refine hK.out _ _ ⟨(blk_cell BK246.out 0).trans rfl, (blk_cell BK246.out 1).trans rfl, (blk_cell BK247.out 0).trans rfl, (blk_cell BK247.out 1).trans rfl⟩ (fun hHeld => ?_)
 clear hK K
 refine norm_ (a' := ?_) ?_ ?_
 rotate_left
 ·show Act.put _ (some 15) _ = _
  simp only [Act.put, List.setIfInBounds_toArray, List.set_cons_zero, List.set_cons_succ, i64_w, i32_w]
  rfl
 refine on1 11 16 (fun K hK => ?_)
 refine goes_ Try.func135 (by kernel_rfl) rfl #[.slice Ao11 y250.length co11] (by rfl) rfl rfl mq ?_
 with_reducible refine (cmp_Or_int.calls k _ _ y250 t253 _ ?side1 ?side2 A5.out).mono ?_
 (case side1 => exact cq (Kd.R_reads' HO252.out).2.2); (case side2 => exact (Kd.R_reads' HO252.out).2.1)
 rintro e w' ⟨rfl, ⟨nd, rfl⟩⟩
 refine ⟨_, rfl, ?_⟩
 replace HG := am (HG.out.drewN nd)
 refine hK.out _ _ ⟨(blk_cell BK246.out 0).trans rfl, (blk_cell BK246.out 1).trans rfl, (blk_cell BK247.out 0).trans rfl, (blk_cell BK247.out 1).trans rfl⟩ (fun hHeld => ?_)
 clear hK K
 refine norm_ (a' := ?_) ?_ ?_
 rotate_left
 ·show Act.put _ (some 16) _ = _
  simp only [Act.put, List.setIfInBounds_toArray, List.set_cons_zero, List.set_cons_succ, i64_w, i32_w]
  rfl
 refine pu 12 4 ?_
 refine done_ (done_of HT_.out (by kernel_rfl)) ?_
 try go_wp2
 go_ret
 exact ⟨eq_, by first | exact HG.out | (simpa using HG.out)⟩

/-! ### impl_Guess: function 107 -/

instance impl_Guess.inh : Inhabited S36 := ⟨z36⟩
/-- How two guesses are ordered: by distance, then by word. -/
def impl_Guess.cf (x y : S36) : Int := if x.f1 < y.f1 then -1 else if x.f1 > y.f1 then 1 else if Op.bytesLess x.f0.toList y.f0.toList = true then -1 else if Op.bytesLess y.f0.toList x.f0.toList = true then 1 else 0
def impl_Guess.le (x y : S36) : Bool := !(ltOf impl_Guess.cf y x)
theorem impl_Guess.lt_iff (x y : S36) : ltOf impl_Guess.cf x y = true ↔ x.f1 < y.f1 ∨ (x.f1 = y.f1 ∧ x.f0.toList < y.f0.toList) := by
 unfold ltOf impl_Guess.cf
 simp only [bytesLess_eq, decide_eq_true_eq]
 by_cases h1 : x.f1 < y.f1
 ·simp [h1]
 ·by_cases h2 : y.f1 < x.f1
  ·have : ¬ x.f1 = y.f1 := by omega
   simp [h1, h2, this]
  ·have h3 : x.f1 = y.f1 := by omega
   by_cases h4 : x.f0.toList < y.f0.toList
   ·simp [h3, h4]
   ·by_cases h5 : y.f0.toList < x.f0.toList <;> simp [h3, h4, h5]
theorem impl_Guess.lf (x y : S36) : ltOf impl_Guess.cf x y = false ↔ ¬ (x.f1 < y.f1 ∨ (x.f1 = y.f1 ∧ x.f0.toList < y.f0.toList)) := by
 rw [← impl_Guess.lt_iff, Bool.not_eq_true]
theorem impl_Guess.swo : Go.Sort.SWO (ltOf impl_Guess.cf) where
 irrefl x := by
  rw [impl_Guess.lf]
  rintro (h | ⟨_, h⟩)
  ·omega
  ·exact List.lt_irrefl _ h
 trans x y z h1 h2 := by
  rw [impl_Guess.lt_iff] at *
  rcases h1 with h1 | ⟨h1, h3⟩ <;> rcases h2 with h2 | ⟨h2, h4⟩
  ·exact .inl (by omega)
  ·exact .inl (by omega)
  ·exact .inl (by omega)
  ·exact .inr ⟨by omega, List.lt_trans h3 h4⟩
 ntrans x y z h1 h2 := by
  rw [impl_Guess.lf] at *
  rintro (h | ⟨h, h3⟩)
  ·by_cases a : x.f1 < y.f1
   ·exact h1 (.inl a)
   ·exact h2 (.inl (by omega))
  ·have a : x.f1 = y.f1 := by
    by_cases a : x.f1 < y.f1
    ·exact absurd (.inl a) h1
    ·by_cases b : y.f1 < z.f1
     ·exact absurd (.inl b) h2
     ·omega
   have b : ¬ x.f0.toList < y.f0.toList := fun h4 => h1 (.inr ⟨a, h4⟩)
   have c : ¬ y.f0.toList < z.f0.toList := fun h4 => h2 (.inr ⟨by omega, h4⟩)
   exact absurd h3 (List.not_lt.2 (List.le_trans (List.not_lt.1 c) (List.not_lt.1 b)))
theorem impl_Guess.tot (x y : S36) (h1 : ltOf impl_Guess.cf x y = false) (h2 : ltOf impl_Guess.cf y x = false) : x = y := by
 rw [impl_Guess.lf] at *
 have a : x.f1 = y.f1 := by
  by_cases a : x.f1 < y.f1
  ·exact absurd (.inl a) h1
  ·by_cases b : y.f1 < x.f1
   ·exact absurd (.inl b) h2
   ·omega
 have b : x.f0.toList = y.f0.toList := List.le_antisymm (List.not_lt.1 fun h => h2 (.inr ⟨a.symm, h⟩)) (List.not_lt.1 fun h => h1 (.inr ⟨a, h⟩))
 rw [Lib.toList_data, Lib.toList_data] at b
 cases x; cases y
 simp only [S36.mk.injEq]
 exact ⟨ByteArray.ext (Array.toList_inj.1 b), a⟩
theorem impl_Guess.order (x y : S36) : impl_guessOrder.f 3 x.f0 x.f1 y.f0 y.f1 = some (impl_Guess.cf x y) := by
 have n1 : ∀ z : Int, (z != z) = false := fun z => by simp
 have n2 : ∀ z : ByteArray, (z.toList != z.toList) = false := fun z => by simp
 have o : ∀ u v : Int, cmp_Or_int.f 3 [u, v] = some (if u = 0 then v else u) := fun u v => by
  by_cases h : u = 0
  ·by_cases h2 : v = 0
   ·simp [cmp_Or_int.f, cmp_Or_int.l0, rd, h, h2, wrap64]
   ·simp [cmp_Or_int.f, cmp_Or_int.l0, rd, h, h2, wrap64]
  ·simp [cmp_Or_int.f, cmp_Or_int.l0, rd, h, wrap64]
 unfold impl_guessOrder.f cmp_Compare_int.f cmp_Compare_string.f cmp_isNaN_int.f cmp_isNaN_string.f impl_Guess.cf
 simp only [n1, n2, Option.bind_some, Bool.false_eq_true, if_false]
 by_cases h1 : x.f1 < y.f1
 ·by_cases h4 : Op.bytesLess x.f0.toList y.f0.toList = true <;> by_cases h5 : Op.bytesLess y.f0.toList x.f0.toList = true <;> simp [h1, h4, h5, o]
 ·by_cases h2 : x.f1 > y.f1
  ·by_cases h4 : Op.bytesLess x.f0.toList y.f0.toList = true <;> by_cases h5 : Op.bytesLess y.f0.toList x.f0.toList = true <;> simp [h1, h2, h4, h5, o]
  ·by_cases h4 : Op.bytesLess x.f0.toList y.f0.toList = true <;> by_cases h5 : Op.bytesLess y.f0.toList x.f0.toList = true <;> simp [h1, h2, h4, h5, o]
def impl_Guess.enc (x : S36) : List Value := [.string x.f0, .int .i64 x.f1]
def impl_Guess.fl (xs : List S36) : Array Value := Go.Sort.flatK impl_Guess.enc 2 xs.toArray
theorem impl_Guess.fl_size (xs : List S36) : (impl_Guess.fl xs).size = xs.length * 2 := by simp [impl_Guess.fl]
theorem impl_Guess.fl_get (xs : List S36) (j : Nat) (p : S36) (h : xs[j]? = some p) : ((impl_Guess.fl xs).toList.drop (j * 2)).take 2 = impl_Guess.enc p := by
 obtain ⟨hj, rfl⟩ := List.getElem?_eq_some_iff.1 h
 apply List.ext_getElem?
 intro t
 have e : ∀ t, t < 2 → (impl_Guess.fl xs)[j * 2 + t]! = (impl_Guess.enc xs[j])[t]! := fun t ht => by
  unfold impl_Guess.fl
  rw [Go.Sort.get_flatK _ _ _ _ (by simp; omega), show (j * 2 + t) / 2 = j by omega, show (j * 2 + t) % 2 = t by omega]
  simp [hj]
 rcases Nat.lt_or_ge t 2 with ht | ht
 ·rw [List.getElem?_take, if_pos ht, List.getElem?_drop, Array.getElem?_toList]
  have hs : j * 2 + t < (impl_Guess.fl xs).size := by rw [impl_Guess.fl_size]; omega
  have h2 := e t ht
  have h3 : t < (impl_Guess.enc xs[j]).length := by simpa [impl_Guess.enc] using ht
  rw [getElem!_pos (impl_Guess.fl xs) (j * 2 + t) hs, getElem!_pos (impl_Guess.enc xs[j]) t h3] at h2
  rw [Array.getElem?_eq_getElem hs, h2, List.getElem?_eq_getElem h3]
 ·rw [List.getElem?_eq_none (by simp; omega), List.getElem?_eq_none (by simp [impl_Guess.enc]; omega)]
theorem impl_Guess.reps (W : World) (base : Nat) (ok : Nat → Prop) (xs : List S36) : Reps (k36.M W base ok) 2 xs (impl_Guess.fl xs).toList :=
 ⟨by rw [Array.length_toList, impl_Guess.fl_size], fun j p h => by rw [impl_Guess.fl_get xs j p h]; exact k36_mkM W base ok p⟩
theorem impl_Guess.of_reps {W : World} {base : Nat} {ok : Nat → Prop} {xs : List S36} {cs : List Value} (h : Reps (k36.M W base ok) 2 xs cs) : cs = (impl_Guess.fl xs).toList := by
 apply List.ext_getElem?
 intro t
 rcases Nat.lt_or_ge t (xs.length * 2) with ht | ht
 ·have hj : t / 2 < xs.length := by omega
  have e1 := k36_openM (h.2 (t / 2) _ (List.getElem?_eq_getElem hj)); have e2 := impl_Guess.fl_get xs (t / 2) _ (List.getElem?_eq_getElem hj); have e3 := congrArg (fun l : List Value => l[t % 2]?) (e1.trans e2.symm)
  simp only [List.getElem?_take, List.getElem?_drop, if_pos (show t % 2 < 2 by omega), show t / 2 * 2 + t % 2 = t by omega] at e3
  exact e3
 ·rw [List.getElem?_eq_none (by rw [h.1]; exact ht), List.getElem?_eq_none (by rw [Array.length_toList, impl_Guess.fl_size]; exact ht)]
theorem impl_Guess.holds {w : World} {g : Nat} {cur : Array Value} {xs : List S36} (hb : w.heap[g]? = some (.cells cur 36 (0, 0))) (ht : cur.toList.take (xs.length * 2) = (impl_Guess.fl xs).toList) : Go.Sort.HoldsK impl_Guess.enc 2 w g 0 xs.toArray := by
 intro j hj
 have hj' : j < xs.length * 2 := by simpa using hj
 refine ⟨?_, by simp [World.frozen?, hb]⟩
 have h1 : (cur.toList.take (xs.length * 2))[j]? = (impl_Guess.fl xs).toList[j]? := by rw [ht]
 rw [List.getElem?_take_of_lt hj', Array.getElem?_toList, Array.getElem?_toList] at h1
 simp only [World.cell?, hb, Nat.zero_add]
 simp only [Option.isSome_none, Bool.false_eq_true, if_false]
 rw [h1, Array.getElem?_eq_getElem (by rw [impl_Guess.fl_size]; exact hj')]
 show _ = some (id (impl_Guess.fl xs)[j]!)
 rw [getElem!_pos _ _ (by rw [impl_Guess.fl_size]; exact hj')]
 rfl
theorem impl_Guess.take (cur F : Array Value) (h : F.size ≤ cur.size) : (Go.Sort.putCells id 0 F cur).toList.take F.size = F.toList := by
 apply List.ext_getElem?
 intro j
 by_cases hj : j < F.size
 ·rw [List.getElem?_take_of_lt hj, Array.getElem?_toList]
  simp [Go.Sort.putCells, hj, show j < cur.size by omega]
 ·rw [List.getElem?_take_eq_none (by omega), List.getElem?_eq_none (by simp; omega)]
set_option maxHeartbeats 1000000 in
theorem impl_Guess.row {w0 W : World} {base : Nat} {P0 : Nat → Prop} {v : Value} {xs : List S36} (h : Kd.R k36 36 W base P0 v xs) (hB : Below base w0 W) (hbase : base ≤ W.heap.size) (hl : xs.length ≤ 1000000000) :
  Calls Try.prog 107 #[v, .func (.func 108) #[] #[]] W fun e w' => e = .returned (.tuple #[]) ∧ Kd.R k36 36 w' base (fun k_ => P0 k_ ∨ W.heap.size ≤ k_) v (xs.mergeSort impl_Guess.le) ∧ Below base w0 w' ∧ Kept W w' P0 := by
 obtain ⟨hok, inner, ho, hr⟩ := h
 have hr2 : Reps (k36.M W base (fun k => P0 k ∧ some k ≠ v.ownBlock)) 2 xs inner := hr
 have ei := impl_Guess.of_reps hr2; subst ei
 rcases ho.2 with ⟨rfl, h0⟩ | ⟨g, cap, cur, rfl, hb, hg, h1, h2, h3, h4⟩
 ·have e0 : xs = [] := List.length_eq_zero_iff.1 h0
  subst e0
  have := AnyF.slices_SortFunc_none Try.laySortG none 0 (.func (.func 108) #[] #[]) W
  change Calls Try.prog 107 _ _ _ at this
  refine this.mono ?_
  rintro e w' ⟨he, rfl⟩
  refine ⟨he, ?_, hB, Nat.le_refl _, fun _ _ _ => rfl⟩
  rw [List.mergeSort_nil]
  exact Kd.R_nil _ _ _ _ _
 ·have hgl : g < W.heap.size := (Array.getElem?_eq_some_iff.1 hg).1
  have hsz : k36.sz = 2 := rfl
  rw [hsz] at h3 h4
  have hH := impl_Guess.holds hg h4
  have eg : ∀ args w, (callFunc 108 args).run Try.prog w = .ok (.enter 108 args) w := enters_of Try.func108 (by kernel_rfl) rfl
  have hcmp : CmpLays Try.prog 108 #[] impl_Guess.enc 2 impl_Guess.cf g 0 xs.toArray.size W := fun m os dk _ x y => impl_guessOrder.calls 3 x.f0 x.f1 y.f0 y.f1 _ _ (impl_Guess.order x y)
  have := AnyQ.slices_SortFunc_total (α := S36) Try.laySortG 2 Try.isAgg36 Try.sizeOf36 impl_Guess.enc (fun _ => rfl) (fun x v hv => by simp only [impl_Guess.enc, List.mem_cons, List.not_mem_nil, or_false] at hv; rcases hv with rfl | rfl <;> rfl) impl_Guess.cf impl_Guess.swo 108 #[] g 0 cap xs.toArray W eg hcmp hH hgl (by simp; omega) impl_Guess.tot
  change Calls Try.prog 107 #[.slice (some ⟨g, 0, none⟩) xs.length cap, .func (.func 108) #[] #[]] _ _ at this
  refine this.mono ?_
  rintro e w' ⟨he, n, os, rfl⟩
  have hl2 : (xs.mergeSort impl_Guess.le).length = xs.length := List.length_mergeSort xs
  have hhe : (sortWorldK impl_Guess.enc 2 W g 0 n (xs.toArray.toList.mergeSort fun x y => !(ltOf impl_Guess.cf) y x).toArray os).heap[g]? = some (.cells (Go.Sort.putCells id 0 (impl_Guess.fl (xs.mergeSort impl_Guess.le)) cur) 36 (0, 0)) := by
   show (Go.Sort.grow (Go.Sort.putRow id (Go.Sort.ahead W n) g 0 (impl_Guess.fl (xs.mergeSort impl_Guess.le))) os).heap[g]? = _
   rw [Go.Sort.heap_grow_old _ _ (by simpa using hgl)]
   simp [Go.Sort.putRow, Go.Sort.mapBlock, Go.Sort.ahead, Array.getElem?_modify, hg, Go.Sort.onCells]
  have hgr : W.grownBy (sortWorldK impl_Guess.enc 2 W g 0 n (xs.toArray.toList.mergeSort fun x y => !(ltOf impl_Guess.cf) y x).toArray os) (some g) := by
   refine ⟨rfl, rfl, rfl, by simp [sortWorldK, Go.Sort.putRowK], fun k hk hne => ?_⟩
   show (Go.Sort.grow (Go.Sort.putRow id (Go.Sort.ahead W n) g 0 (impl_Guess.fl (xs.mergeSort impl_Guess.le))) os).heap[k]? = _
   rw [Go.Sort.heap_grow_old _ _ (by simpa using hk)]
   have : g ≠ k := fun e => hne (by rw [e])
   simp [Go.Sort.putRow, Go.Sort.mapBlock, Go.Sort.ahead, Array.getElem?_modify, this]
  refine ⟨he, ⟨fun k hk => .inl (hok k hk), (impl_Guess.fl (xs.mergeSort impl_Guess.le)).toList, ⟨?_, .inr ⟨g, cap, _, by rw [hl2], hb, hhe, by rw [hl2]; exact h1, h2, by rw [hsz]; simpa [Go.Sort.putCells] using h3, ?_⟩⟩, impl_Guess.reps _ _ _ _⟩, hB.grown hgr hbase (fun j hj => by cases hj; exact hb), hgr.size, fun i hi hn => hgr.block i hi (fun e => hn (hok i (by rw [e]; rfl)))⟩
  ·rw [Array.length_toList, impl_Guess.fl_size, hsz]
  ·rw [hsz]
   have h5 := impl_Guess.take cur (impl_Guess.fl (xs.mergeSort impl_Guess.le)) (by rw [impl_Guess.fl_size, hl2, h3]; omega)
   rw [impl_Guess.fl_size] at h5
   exact h5
def impl_Guess.f (l0 : List S36) : Option (List S36) := if l0.length ≤ 1000000000 then some (l0.mergeSort impl_Guess.le) else none
-- @FA 107 108
theorem impl_Guess.calls (P0_ : Nat → Prop) (u9000_ : Value) (l0 r1 : List S36) (w0 w : World) (hB : Below w0.heap.size w0 w) (ho0 : Kd.R k36 36 w w0.heap.size P0_ u9000_ l0) (h : impl_Guess.f l0 = some r1) :
  Calls Try.prog 107 #[u9000_, .func (.func 108) #[] #[]] w fun e w' => e = .returned (.tuple #[]) ∧ Kd.R k36 36 w' w0.heap.size (fun k_ => (P0_ k_ ∨ w.heap.size ≤ k_)) u9000_ r1 ∧ Below w0.heap.size w0 w' ∧ Kept w w' (fun k_ => P0_ k_) := by
 unfold impl_Guess.f at h
 split at h
 case isFalse => cases h
 rename_i hsz; obtain rfl := Option.some.inj h
 exact impl_Guess.row ho0 hB hB.size hsz
-- shrunk

/-! ### impl_guesses: function 61 -/
def impl_guesses.l0 : Nat → ByteArray → Int → List (S36) → List ByteArray → Int → Int → Option ((List (S36)))
 | 0, _, _, _, _, _, _ => none
 | k + 1, x1, x2, x7, x11, x12, x13 => if x13 < x12 then (if 0 ≤ x13 then (if x13 < (x11.length : Int) then ((impl_Within.f k (rdOf ByteArray.empty x11 x13) x1 x2).bind fun t255 => (if t255 = true then ((impl_Far.f k (rdOf ByteArray.empty x11 x13) x1).bind fun t256 => (if x7.length < 5864062014805 then (impl_guesses.l0 k x1 x2 (x7 ++ [(⟨rdOf ByteArray.empty x11 x13, t256⟩ : S36)]) x11 x12 (wrap64 (x13 + 1))) else (none))) else (impl_guesses.l0 k x1 x2 x7 x11 x12 (wrap64 (x13 + 1))))) else (none)) else (none)) else ((impl_Guess.f x7).bind fun t243 => ((some (([] : List (S36)) : List (S36))).bind fun y244 => (if 0 ≤ (mn (x7.length : Int) 10) then (if (mn (x7.length : Int) 10) ≤ (x7.length : Int) then ((some (t243.take ((mn (x7.length : Int) 10) : Int).toNat : List (S36))).bind fun y247 => (if y244.length + y247.length < 5864062014805 then (some (y244 ++ y247)) else (none))) else (none)) else (none))))
def impl_guesses.f (k : Nat) (l0 : List ByteArray) (a1 : ByteArray) (a2 : Int) : Option ((List (S36))) := impl_guesses.l0 k a1 a2 (([] : List (S36))) l0 (l0.length : Int) 0
theorem impl_guesses.calls (k : Nat) (A0 : Option Addr) (c0 : Nat) (l0 : List ByteArray) (a1 : ByteArray) (a2 : Int) (r : List (S36)) (w : World) (hr0 : Kd.C Kd.string w A0 l0.length l0) (hc0 : l0.length ≤ c0) (h : impl_guesses.f k l0 a1 a2 = some r) :
  Calls Try.prog 61 #[.slice A0 l0.length c0, .string a1, .int .i64 a2] w fun e w' => ∃ v0_ : Value, e = .returned (v0_) ∧ Kd.R k36 36 w' w.heap.size (fun _ => True) v0_ r ∧ Below w.heap.size w w' := by
 have hu36 := Try.underlying36; have HR0 := am hr0; have HC0 := am hc0; clear hr0 hc0; have HB := am (Below.refl w.heap.size w)
 have H : (impl_guesses.l0 k a1 a2 (([] : List (S36))) l0 (l0.length : Int) 0) = some r := h
 clear h; obtain ⟨y240, hy240⟩ : ∃ y_ : List (S36), y_ = (([] : List (S36))) := ⟨_, rfl⟩
 replace H : (impl_guesses.l0 k a1 a2 y240 l0 (l0.length : Int) 0) = some r := by first | (rw [hy240]; with_reducible exact H) | (have H2_ := bm H; rw [hy240]; with_reducible exact H2_) | (with_reducible exact bm H) | with_reducible exact H | (rw [hy240]; exact H) | exact H
 have Ny240 := am hy240; clear hy240
 have H' := am H
 clear H; go_enter Try.func61, Try.ntmps61
 go_wp2_with (first | ((with_reducible refine gate_dst (N := 10) rfl ?_); refine Kd.R_lit k36 _ 36 ?hg (N := 10) ?hd (xs := ([] : List (S36))) (inner := []) (ok := fun _ => True) (okp := fun _ => True) ?hr ?hp (fun _ hk => hk) trivial (Below.refl _ _) (Nat.le_refl _) (by simp) ?_; (case hd => rfl); (case hg => rfl); (case hr => first | (go_simp; done) | (go_simp; rfl)); (case hp => exact (Reps.none _ _)); intro v241 w4 ho5 hb hg_ hnew_; clear hg_ hnew_; (first | rw [← Ny240.out] at ho5 | (simp only [Int.reduceToNat] at ho5; rw [← Ny240.out] at ho5) | (simp only [Int.toNat_natCast] at ho5; rw [← Ny240.out] at ho5)); have HO242 := am (Kd.R_lower ho5 (below_size bel)); replace HB := am (below_step bel hb); clear hb ho5))
 go_loopg [7, 13] k (fun kq v7 v13 w' => ∃ (x7_1 : List (S36)) (x13_1 : Int), v13 = .int .i64 x13_1 ∧ Aside0 (impl_guesses.l0 kq a1 a2 x7_1 l0 (l0.length : Int) x13_1 = some r) ∧ Aside0 (kq ≤ k) ∧ Aside0 (Kd.R k36 36 w' w.heap.size (fun _ => True) v7 x7_1) ∧ Aside0 (Below w.heap.size w w'))
 case atStart => exact ⟨(y240), (0), sq, H', ⟨Nat.le_refl _⟩, ⟨rq HO242.out⟩, ⟨bel⟩⟩
 case round =>
  clear H'; (try clear p2); obtain ⟨x7_1, x13_1, rfl, HA, HK1, HO_7, HB⟩ := hrel
  cases gk with
  | zero => exact absurd HA.out (by simp [impl_guesses.l0])
  | succ k1 =>
   have H := HA.out; clear HA
   simp only [impl_guesses.l0] at H
   by_cases c6 : x13_1 < (l0.length : Int)
   ·rw [if_pos c6] at H; have c6b0 := decide_eq_true c6; clear c6
    replace H := it H; obtain ⟨c7b0, H⟩ := H
    replace H := it H; obtain ⟨c8b0, H⟩ := H; replace H := bs H; obtain ⟨t255, A90, H⟩ := H; replace H : (if t255 = true then ((impl_Far.f k1 (rdOf ByteArray.empty l0 x13_1) a1).bind fun t256 => (if x7_1.length < 5864062014805 then (impl_guesses.l0 k1 a1 a2 (x7_1 ++ [(⟨rdOf ByteArray.empty l0 x13_1, t256⟩ : S36)]) l0 (l0.length : Int) (wrap64 (x13_1 + 1))) else (none))) else (impl_guesses.l0 k1 a1 a2 x7_1 l0 (l0.length : Int) (wrap64 (x13_1 + 1)))) = some r := H; have A9 := Aside0.mk A90; clear A90
    by_cases c10 : t255 = true
    ·subst c10
     have H1 : ((impl_Far.f k1 (rdOf ByteArray.empty l0 x13_1) a1).bind fun t256 => (if x7_1.length < 5864062014805 then (impl_guesses.l0 k1 a1 a2 (x7_1 ++ [(⟨rdOf ByteArray.empty l0 x13_1, t256⟩ : S36)]) l0 (l0.length : Int) (wrap64 (x13_1 + 1))) else (none))) = some r := b19_
     replace H := H1; clear H1
     replace H := bs H; obtain ⟨t256, A110, H⟩ := H; replace H : (if x7_1.length < 5864062014805 then (impl_guesses.l0 k1 a1 a2 (x7_1 ++ [(⟨rdOf ByteArray.empty l0 x13_1, t256⟩ : S36)]) l0 (l0.length : Int) (wrap64 (x13_1 + 1))) else (none)) = some r := H; have A11 := Aside0.mk A110; clear A110
     replace H := ip H; obtain ⟨c12, H⟩ := H; have LMc12 := Aside0.mk c12; clear c12; obtain ⟨y257, hy257⟩ : ∃ y_ : List (S36), y_ = (x7_1 ++ [(⟨rdOf ByteArray.empty l0 x13_1, t256⟩ : S36)]) := ⟨_, rfl⟩
     replace H : (impl_guesses.l0 k1 a1 a2 y257 l0 (l0.length : Int) (wrap64 (x13_1 + 1))) = some r := by first | (rw [hy257]; with_reducible exact H) | (have H2_ := bm H; rw [hy257]; with_reducible exact H2_) | (with_reducible exact bm H) | with_reducible exact H | (rw [hy257]; exact H) | exact H
     have Ny257 := am hy257; clear hy257
     have H' := am H
     clear H
     have p254 : 0 ≤ (x13_1 : Int) := of_decide_eq_true ad
     have q254 : x13_1 < (l0.length : Int) := of_decide_eq_true ad
     obtain ⟨ad254, e254, hx254_0⟩ := Kd.at_string HR0.out x13_1 p254 q254
     cases e254
     replace hx254_0 := kp HB.out hx254_0; replace p254 := eq_true p254; replace q254 := eq_true q254
     go_wp2_with (first | ((with_reducible refine gate_callee (f := 106) rfl ?_); refine goesL_ (some 20) rfl rfl Try.func106 (by kernel_rfl) rfl #[.string (rdOf ByteArray.empty l0 x13_1), .string a1, .int .i64 a2] rfl mq ?_; (with_reducible refine (impl_Within.calls k1 (rdOf ByteArray.empty l0 x13_1) a1 a2 true _ A9.out).mono ?_); rintro e w13 ⟨rfl, hb⟩; refine ⟨_, rfl, ?_⟩; replace HO_7 := am (Kd.R_below (rq HO_7.out) hb); replace HB := am (below_step bel hb); (try clear hb); (try clear hb2); (try clear hk); (try clear hi)) | ((with_reducible refine gate_callee (f := 23) rfl ?_); refine goesL_ (some 25) rfl rfl Try.func23 (by kernel_rfl) rfl #[.string (rdOf ByteArray.empty l0 x13_1), .string a1] rfl mq ?_; (with_reducible refine (impl_Far.calls k1 (rdOf ByteArray.empty l0 x13_1) a1 t256 _ A11.out).mono ?_); rintro e w14 ⟨rfl, hb⟩; refine ⟨_, rfl, ?_⟩; replace HO_7 := am (Kd.R_below (rq HO_7.out) hb); replace HB := am (below_step bel hb); (try clear hb); (try clear hb2); (try clear hk); (try clear hi)) | ((with_reducible refine gate_builtin (b := .append) (xs := #[.tmp 21, .tmp 27]) rfl ?_); at_builtin; refine Kd.R_append k36 (w0 := w) w.heap.size rfl (.tmp 21) (.tmp 27) 24 36 (.agg #[(.string ⟨#[]⟩), (.int .i64 0)]) 24 rfl Try.underlying24 info36 rfl (by decide) (by omega) u7 x7_1 (⟨rdOf ByteArray.empty l0 x13_1, t256⟩ : S36) [.string (rdOf ByteArray.empty l0 x13_1), .int .i64 t256] (fun _ => True) (fun _ => False) rfl rfl ?aP (fun _ hk => hk.elim) ?aF ?aO ?aB ?aS ?aL ?_; (case aP => exact k36_mkM _ _ _ (⟨rdOf ByteArray.empty l0 x13_1, t256⟩ : S36)); (case aB => exact bel); (case aF => exact (fun _ _ => trivial)); (case aO => exact (rq HO_7.out)); (case aS => exact (below_size bel)); (case aL => have := LMc12.out; omega); intro v258 w15 ho hb hg hat; rw [← Ny257.out] at ho; replace HB := am (hb); have HO259 := am (ho); clear HO_7; clear ho hb hg hat))
     go_roundg k1
     case measure => have := HK1.out; omega
     case rel => exact ⟨(y257), (wrap64 (x13_1 + 1)), sq, H', ⟨b53_⟩, ⟨rq HO259.out⟩, ⟨bel⟩⟩
    replace c10 := Bool.eq_false_iff.mpr c10; subst c10
    have H1 : (impl_guesses.l0 k1 a1 a2 x7_1 l0 (l0.length : Int) (wrap64 (x13_1 + 1))) = some r := b7_
    replace H := H1; clear H1
    have H' := am H
    clear H
    have p254 : 0 ≤ (x13_1 : Int) := of_decide_eq_true ad
    have q254 : x13_1 < (l0.length : Int) := of_decide_eq_true ad
    obtain ⟨ad254, e254, hx254_0⟩ := Kd.at_string HR0.out x13_1 p254 q254
    cases e254
    replace hx254_0 := kp HB.out hx254_0; replace p254 := eq_true p254; replace q254 := eq_true q254
    go_wp2_with (first | ((with_reducible refine gate_callee (f := 106) rfl ?_); refine goesL_ (some 20) rfl rfl Try.func106 (by kernel_rfl) rfl #[.string (rdOf ByteArray.empty l0 x13_1), .string a1, .int .i64 a2] rfl mq ?_; (with_reducible refine (impl_Within.calls k1 (rdOf ByteArray.empty l0 x13_1) a1 a2 false _ A9.out).mono ?_); rintro e w16 ⟨rfl, hb⟩; refine ⟨_, rfl, ?_⟩; replace HO_7 := am (Kd.R_below (rq HO_7.out) hb); replace HB := am (below_step bel hb); (try clear hb); (try clear hb2); (try clear hk); (try clear hi)))
    go_roundg k1
    case measure => have := HK1.out; omega
    case rel => exact ⟨(x7_1), (wrap64 (x13_1 + 1)), sq, H', ⟨b53_⟩, ⟨rq HO_7.out⟩, ⟨bel⟩⟩
   rw [if_neg c6] at H; have c6b0 := decide_eq_false c6; clear c6; replace H := bs H; obtain ⟨t243, A170, H⟩ := H; replace H : ((some (([] : List (S36)) : List (S36))).bind fun y244 => (if 0 ≤ (mn (x7_1.length : Int) 10) then (if (mn (x7_1.length : Int) 10) ≤ (x7_1.length : Int) then ((some (t243.take ((mn (x7_1.length : Int) 10) : Int).toNat : List (S36))).bind fun y247 => (if y244.length + y247.length < 5864062014805 then (some (y244 ++ y247)) else (none))) else (none)) else (none))) = some r := H; have A17 := Aside0.mk A170; clear A170; obtain ⟨y244, hy244⟩ : ∃ y_ : List (S36), y_ = (([] : List (S36))) := ⟨_, rfl⟩
   replace H : (if 0 ≤ (mn (x7_1.length : Int) 10) then (if (mn (x7_1.length : Int) 10) ≤ (x7_1.length : Int) then ((some (t243.take ((mn (x7_1.length : Int) 10) : Int).toNat : List (S36))).bind fun y247 => (if y244.length + y247.length < 5864062014805 then (some (y244 ++ y247)) else (none))) else (none)) else (none)) = some r := by first | (rw [hy244]; with_reducible exact H) | (have H2_ := bm H; rw [hy244]; with_reducible exact H2_) | (with_reducible exact bm H) | with_reducible exact H | (rw [hy244]; exact H) | exact H
   have Ny244 := am hy244; clear hy244; obtain ⟨ji18, hji18⟩ : ∃ j_ : Int, (mn (x7_1.length : Int) 10) = j_ := ⟨_, rfl⟩
   replace H : (if 0 ≤ (ji18) then (if (ji18) ≤ (x7_1.length : Int) then ((some (t243.take ((ji18) : Int).toNat : List (S36))).bind fun y247 => (if y244.length + y247.length < 5864062014805 then (some (y244 ++ y247)) else (none))) else (none)) else (none)) = some r := by first | (rw [hji18] at H; exact H) | (simp only [hji18] at H ⊢; exact H)
   (try rw [hji18] at A17)
   have hji18_ : (if 10 < (x7_1.length : Int) then 10 else (x7_1.length : Int)) = ji18 := hji18
   replace H := ip H; obtain ⟨c19, H⟩ := H; have c19b0 := eq_true c19
   have c19b1 : decide (0 ≤ (ji18)) = true := decide_eq_true c19
   clear c19
   replace H := ip H; obtain ⟨c20, H⟩ := H; have c20b0 := eq_true c20
   have c20b1 : decide ((ji18) ≤ (x7_1.length : Int)) = true := decide_eq_true c20
   clear c20; obtain ⟨y247, hy247⟩ : ∃ y_ : List (S36), y_ = (t243.take ((ji18) : Int).toNat) := ⟨_, rfl⟩
   replace H : (if y244.length + y247.length < 5864062014805 then (some (y244 ++ y247)) else (none)) = some r := by first | (rw [hy247]; with_reducible exact H) | (have H2_ := bm H; rw [hy247]; with_reducible exact H2_) | (with_reducible exact bm H) | with_reducible exact H | (rw [hy247]; exact H) | exact H
   have Ny247 := am hy247; clear hy247
   replace H := ip H; obtain ⟨c21, H⟩ := H; have LMc21 := Aside0.mk c21; clear c21; obtain ⟨y251, hy251⟩ : ∃ y_ : List (S36), y_ = (y244 ++ y247) := ⟨_, rfl⟩
   replace H : (some y251) = some r := by first | (rw [hy251]; with_reducible exact H) | (have H2_ := bm H; rw [hy251]; with_reducible exact H2_) | (with_reducible exact bm H) | with_reducible exact H | (rw [hy251]; exact H) | exact H
   have Ny251 := am hy251; clear hy251; obtain rfl := Option.some.inj H; obtain ⟨Ao22, co22, eo22⟩ := Kd.R_slice HO_7.out; subst eo22
   go_wp2_with (first | ((with_reducible refine gate_callee (f := 107) rfl ?_); refine goesL_ (some 31) rfl rfl Try.func107 (by kernel_rfl) rfl #[.slice Ao22 x7_1.length co22, .func (.func 108) #[] #[]] rfl mq ?_; (with_reducible refine (impl_Guess.calls (fun k_ => some k_ = (.slice Ao22 x7_1.length co22 : Value).ownBlock) (.slice Ao22 x7_1.length co22) x7_1 t243 w _ ?side1 ?side2 A17.out).mono ?_); (case side1 => repeat (first | (with_reducible first | exact HB.out | apply below_alloc | apply pw_below_drewN | apply below_drew1) | exact HB.out)); (case side2 => exact Kd.R_tight rfl HO_7.out); rintro e w23 ⟨rfl, hy0, hb, hkp⟩; refine ⟨_, rfl, ?_⟩; replace HO_7 := am (Kd.R_reok rfl hy0 (fun k_ e_ => HO_7.out.1 k_ e_)); replace HB := am (hb); (try clear hb); (try clear hkp); (try clear hy0)) | ((with_reducible refine gate_dst (N := 32) rfl ?_); refine Kd.R_lit k36 _ 36 ?hg (N := 32) ?hd (xs := ([] : List (S36))) (inner := []) (ok := fun _ => True) (okp := fun _ => True) ?hr ?hp (fun _ hk => hk) trivial (Below.refl _ _) (Nat.le_refl _) (by simp) ?_; (case hd => rfl); (case hg => rfl); (case hr => first | (go_simp; done) | (go_simp; rfl)); (case hp => exact (Reps.none _ _)); intro v245 w24 ho25 hb hg_ hnew_; clear hg_ hnew_; (first | rw [← Ny244.out] at ho25 | (simp only [Int.reduceToNat] at ho25; rw [← Ny244.out] at ho25) | (simp only [Int.toNat_natCast] at ho25; rw [← Ny244.out] at ho25)); have HO246 := am (Kd.R_lower (Kd.R_new' ho25 (Kd.R_lt (rq HO_7.out))) (below_size bel)); replace HO_7 := am (Kd.R_elder' (rq HO_7.out) (Kd.R_base ho25) hb); replace HB := am (below_step bel hb); clear hb ho25; have hlx26 := (Kd.R_reads' HO_7.out).1; have q26 : ((ji18) : Int) ≤ ((x7_1.length : Int) : Int) := of_decide_eq_true ad; obtain ⟨i026, hi026, _, hsz26, _⟩ := info_parts info36; have hroom26 : x7_1.length ≤ co22 := (Kd.R_reads' HO_7.out).2.1; have hroomc26 : t243.length ≤ co22 := (by rw [← hlx26]; exact hroom26); have hC26 : Kd.C k36 _ Ao22 t243.length t243 := (Kd.R_reads' HO_7.out).2.2; have hcut26 := cut_to (P := Try.prog) 24 36 .i64 Try.underlying24 hi026 Ao22 x7_1.length co22 (ji18) (of_decide_eq_true ad) q26 hroom26; have hr26 := Kd.C_take (m := ((ji18) : Int).toNat) hC26 (by omega); have hy26 : y247.length = ((ji18) : Int).toNat := (by rw [Ny247.out, List.length_take]; omega); rw [← Ny247.out] at hr26; rw [← hy26] at hcut26; have HR250 := am hr26; have HC250 := am (show y247.length ≤ co22 from by omega); clear hr26 hC26 hroom26 hi026 hsz26 hroomc26; have KY26 := am hy26; clear hy26; have KE26 := am hlx26; have KL26 := am (show ((ji18) : Int).toNat ≤ t243.length from by omega); clear hlx26; replace q26 := eq_true q26) | ((with_reducible refine gate_builtin (b := .append) (xs := #[.tmp 32, .tmp 37]) rfl ?_); at_builtin; refine Kd.R_append_rows k36 (w0 := w) w.heap.size rfl (.tmp 32) (.tmp 37) 24 36 (.agg #[(.string ⟨#[]⟩), (.int .i64 0)]) 24 rfl Try.underlying24 info36 rfl (by decide) (by omega) v245 y244 y247 _ _ _ (fun k_ => some k_ ≠ (.slice Ao22 x7_1.length co22 : Value).ownBlock) (fun _ => False) rfl rfl ?aO ?aR (fun _ _ h => h) (fun _ h => h.elim) ?aF ?aB ?aS ?aL ?_; (case aR => repeat (first | exact (by repeat (first | (with_reducible exact HR250.out) | (with_reducible refine Kd.C_alloc ?_ _) | (with_reducible refine Kd.C_drewN ?_ _) | (with_reducible refine Kd.C_drew ?_) | exact HR250.out)) | (with_reducible refine Kd.C_alloc ?_ _) | (with_reducible refine Kd.C_drewN ?_ _) | (with_reducible refine Kd.C_drew ?_))); (case aB => exact bel); (case aF => exact (fun k_ hk => Kd.fresh' (Kd.R_lt (rq HO_7.out)) k_ hk)); (case aO => exact (rq (Kd.R_mono HO246.out (fun _ hk => hk.2)))); (case aS => exact (below_size bel)); (case aL => have := LMc21.out; omega); intro v252 w27 ho hb hg hat; rw [← Ny251.out] at ho; replace HB := am (hb); replace HR250 := am ((show Kd.C k36 w27 Ao22 y247.length y247 from by rw [Ny247.out]; exact Kd.C_take (m := ((ji18) : Int).toNat) ((Kd.R_reads' (Kd.R_after (ok := (fun _ => True)) (rq HO_7.out) hg hat)).2.2) KL26.out)); replace HO_7 := am (Kd.R_after (ok := (fun _ => True)) (rq HO_7.out) hg hat); have HO253 := am (ho); clear HO246; clear ho hb hg hat))
   go_ret
   exact ⟨_, by first | rfl | (simp [errW_none, errW_some] <;> rfl) | (simp only [← hji18]; first | rfl | (simp [errW_none, errW_some] <;> rfl)) | (simp [*, errW_none, errW_some] <;> rfl), by (with_reducible repeat (first | apply Kd.R_alloc | apply Kd.R_drewN | apply Kd.R_drew)); exact Kd.R_mono HO253.out (fun _ hk => trivial), bel⟩

/-! ### impl_Guesses: function 14 -/
def impl_Guesses.f (k : Nat) (l0 : List ByteArray) (a1 : ByteArray) (a2 : Int) : Option ((List (S36))) := (impl_wordsOk.f k l0 300).bind fun t260 => (if t260 = true then ((impl_WordOk.f k a1).bind fun t261 => (if t261 = true then ((impl_guesses.f k l0 a1 a2).bind fun t262 => (some t262)) else (some (([] : List (S36)))))) else (some (([] : List (S36)))))
theorem impl_Guesses.calls (k : Nat) (A0 : Option Addr) (c0 : Nat) (l0 : List ByteArray) (a1 : ByteArray) (a2 : Int) (r : List (S36)) (w : World) (hr0 : Kd.C Kd.string w A0 l0.length l0) (hc0 : l0.length ≤ c0) (h : impl_Guesses.f k l0 a1 a2 = some r) :
  Calls Try.prog 14 #[.slice A0 l0.length c0, .string a1, .int .i64 a2] w fun e w' => ∃ v0_ : Value, e = .returned (v0_) ∧ Kd.R k36 36 w' w.heap.size (fun _ => True) v0_ r ∧ Below w.heap.size w w' := by
 have HR0 := am hr0; have HC0 := am hc0; clear hr0 hc0; have HB := am (Below.refl w.heap.size w)
 have H : ((impl_wordsOk.f k l0 300).bind fun t260 => (if t260 = true then ((impl_WordOk.f k a1).bind fun t261 => (if t261 = true then ((impl_guesses.f k l0 a1 a2).bind fun t262 => (some t262)) else (some (([] : List (S36)))))) else (some (([] : List (S36)))))) = some r := h
 clear h; replace H := bs H; obtain ⟨t260, A40, H⟩ := H; replace H : (if t260 = true then ((impl_WordOk.f k a1).bind fun t261 => (if t261 = true then ((impl_guesses.f k l0 a1 a2).bind fun t262 => (some t262)) else (some (([] : List (S36)))))) else (some (([] : List (S36))))) = some r := H; have A4 := Aside0.mk A40; clear A40
 by_cases c5 : t260 = true
 ·subst c5
  have H1 : ((impl_WordOk.f k a1).bind fun t261 => (if t261 = true then ((impl_guesses.f k l0 a1 a2).bind fun t262 => (some t262)) else (some (([] : List (S36)))))) = some r := b19_
  replace H := H1; clear H1
  replace H := bs H; obtain ⟨t261, A60, H⟩ := H; replace H : (if t261 = true then ((impl_guesses.f k l0 a1 a2).bind fun t262 => (some t262)) else (some (([] : List (S36))))) = some r := H; have A6 := Aside0.mk A60; clear A60
  by_cases c7 : t261 = true
  ·subst c7
   have H1 : ((impl_guesses.f k l0 a1 a2).bind fun t262 => (some t262)) = some r := b19_
   replace H := H1; clear H1
   replace H := bs H; obtain ⟨t262, A80, H⟩ := H; replace H : (some t262) = some r := H; have A8 := Aside0.mk A80; clear A80; obtain rfl := Option.some.inj H; go_enter Try.func14, Try.ntmps14
   go_wp2_with (first | ((with_reducible refine gate_callee (f := 59) rfl ?_); refine goesL_ (some 8) rfl rfl Try.func59 (by kernel_rfl) rfl #[.slice A0 l0.length c0, .int .i64 300] rfl mq ?_; (with_reducible refine (impl_wordsOk.calls k _ _ l0 300 true _ ?side1 ?side2 A4.out).mono ?_); (case side1 => repeat (first | exact HR0.out | (with_reducible refine Kd.C_alloc ?_ _) | (with_reducible refine Kd.C_drewN ?_ _) | (with_reducible refine Kd.C_drew ?_))); (case side2 => exact HC0.out); rintro e w' ⟨rfl, ⟨nd, rfl⟩⟩; refine ⟨_, rfl, ?_⟩) | (go_at_call 60; (with_reducible refine (impl_WordOk.calls k a1 true _ A6.out).mono ?_); rintro e w' ⟨rfl, ⟨nd, rfl⟩⟩) | ((with_reducible refine gate_callee (f := 61) rfl ?_); refine goesL_ (some 19) rfl rfl Try.func61 (by kernel_rfl) rfl #[.slice A0 l0.length c0, .string a1, .int .i64 a2] rfl mq ?_; (with_reducible refine (impl_guesses.calls k _ _ l0 a1 a2 t262 _ ?side1 ?side2 A8.out).mono ?_); (case side1 => repeat (first | exact HR0.out | (with_reducible refine Kd.C_alloc ?_ _) | (with_reducible refine Kd.C_drewN ?_ _) | (with_reducible refine Kd.C_drew ?_))); (case side2 => exact HC0.out); rintro e w9 ⟨v263, rfl, ho0, hb⟩; refine ⟨_, rfl, ?_⟩; have HO264 := am (Kd.R_lower ho0 (below_size bel)); replace HB := am (below_step bel hb); (try clear hb); (try clear hb2); (try clear hk); (try clear hi); (try clear ho0)))
   go_ret
   exact ⟨_, eq_, by (with_reducible repeat (first | apply Kd.R_alloc | apply Kd.R_drewN | apply Kd.R_drew)); exact HO264.out, bel⟩
  replace c7 := Bool.eq_false_iff.mpr c7; subst c7
  have H1 : (some (([] : List (S36)))) = some r := b7_
  replace H := H1; clear H1
  obtain ⟨y265, hy265⟩ : ∃ y_ : List (S36), y_ = (([] : List (S36))) := ⟨_, rfl⟩
  replace H : (some y265) = some r := by first | (rw [hy265]; with_reducible exact H) | (have H2_ := bm H; rw [hy265]; with_reducible exact H2_) | (with_reducible exact bm H) | with_reducible exact H | (rw [hy265]; exact H) | exact H
  have Ny265 := am hy265; clear hy265; obtain rfl := Option.some.inj H; go_enter Try.func14, Try.ntmps14
  go_wp2_with (first | ((with_reducible refine gate_callee (f := 59) rfl ?_); refine goesL_ (some 8) rfl rfl Try.func59 (by kernel_rfl) rfl #[.slice A0 l0.length c0, .int .i64 300] rfl mq ?_; (with_reducible refine (impl_wordsOk.calls k _ _ l0 300 true _ ?side1 ?side2 A4.out).mono ?_); (case side1 => repeat (first | exact HR0.out | (with_reducible refine Kd.C_alloc ?_ _) | (with_reducible refine Kd.C_drewN ?_ _) | (with_reducible refine Kd.C_drew ?_))); (case side2 => exact HC0.out); rintro e w' ⟨rfl, ⟨nd, rfl⟩⟩; refine ⟨_, rfl, ?_⟩) | (go_at_call 60; (with_reducible refine (impl_WordOk.calls k a1 false _ A6.out).mono ?_); rintro e w' ⟨rfl, ⟨nd, rfl⟩⟩) | ((with_reducible refine gate_dst (N := 15) rfl ?_); refine Kd.R_lit k36 _ 36 ?hg (N := 15) ?hd (xs := ([] : List (S36))) (inner := []) (ok := fun _ => True) (okp := fun _ => True) ?hr ?hp (fun _ hk => hk) trivial (Below.refl _ _) (Nat.le_refl _) (by simp) ?_; (case hd => rfl); (case hg => rfl); (case hr => first | (go_simp; done) | (go_simp; rfl)); (case hp => exact (Reps.none _ _)); intro v266 w10 ho11 hb hg_ hnew_; clear hg_ hnew_; (first | rw [← Ny265.out] at ho11 | (simp only [Int.reduceToNat] at ho11; rw [← Ny265.out] at ho11) | (simp only [Int.toNat_natCast] at ho11; rw [← Ny265.out] at ho11)); have HO267 := am (Kd.R_lower ho11 (below_size bel)); replace HB := am (below_step bel hb); clear hb ho11))
  go_ret
  exact ⟨_, eq_, by (with_reducible repeat (first | apply Kd.R_alloc | apply Kd.R_drewN | apply Kd.R_drew)); exact HO267.out, bel⟩
 replace c5 := Bool.eq_false_iff.mpr c5; subst c5
 have H1 : (some (([] : List (S36)))) = some r := b7_
 replace H := H1; clear H1
 obtain ⟨y268, hy268⟩ : ∃ y_ : List (S36), y_ = (([] : List (S36))) := ⟨_, rfl⟩
 replace H : (some y268) = some r := by first | (rw [hy268]; with_reducible exact H) | (have H2_ := bm H; rw [hy268]; with_reducible exact H2_) | (with_reducible exact bm H) | with_reducible exact H | (rw [hy268]; exact H) | exact H
 have Ny268 := am hy268; clear hy268; obtain rfl := Option.some.inj H; go_enter Try.func14, Try.ntmps14
 go_wp2_with (first | ((with_reducible refine gate_callee (f := 59) rfl ?_); refine goesL_ (some 8) rfl rfl Try.func59 (by kernel_rfl) rfl #[.slice A0 l0.length c0, .int .i64 300] rfl mq ?_; (with_reducible refine (impl_wordsOk.calls k _ _ l0 300 false _ ?side1 ?side2 A4.out).mono ?_); (case side1 => repeat (first | exact HR0.out | (with_reducible refine Kd.C_alloc ?_ _) | (with_reducible refine Kd.C_drewN ?_ _) | (with_reducible refine Kd.C_drew ?_))); (case side2 => exact HC0.out); rintro e w' ⟨rfl, ⟨nd, rfl⟩⟩; refine ⟨_, rfl, ?_⟩) | ((with_reducible refine gate_dst (N := 15) rfl ?_); refine Kd.R_lit k36 _ 36 ?hg (N := 15) ?hd (xs := ([] : List (S36))) (inner := []) (ok := fun _ => True) (okp := fun _ => True) ?hr ?hp (fun _ hk => hk) trivial (Below.refl _ _) (Nat.le_refl _) (by simp) ?_; (case hd => rfl); (case hg => rfl); (case hr => first | (go_simp; done) | (go_simp; rfl)); (case hp => exact (Reps.none _ _)); intro v269 w12 ho13 hb hg_ hnew_; clear hg_ hnew_; (first | rw [← Ny268.out] at ho13 | (simp only [Int.reduceToNat] at ho13; rw [← Ny268.out] at ho13) | (simp only [Int.toNat_natCast] at ho13; rw [← Ny268.out] at ho13)); have HO270 := am (Kd.R_lower ho13 (below_size bel)); replace HB := am (below_step bel hb); clear hb ho13))
 go_ret
 exact ⟨_, eq_, by (with_reducible repeat (first | apply Kd.R_alloc | apply Kd.R_drewN | apply Kd.R_drew)); exact HO270.out, bel⟩

/-- A state of type 127 at block g of W; what its slices lead to came in by w0. -/
def IsS127 (w0 W : World) (g : Nat) (f0 : List Int) (f1 : Int) : Prop := ∃ A0 c0, W.heap[g]? = some (.cells #[.slice A0 f0.length c0, .int .i64 f1] 127 (0, 0)) ∧ w0.heap.size ≤ g ∧ Kd.C (Kd.int .u8) w0 A0 f0.length f0
theorem IsS127.grown {w0 W : World} {g : Nat} {f0 : List Int} {f1 : Int} {W1 : World} {row : Option Nat} (h : IsS127 w0 W g f0 f1) (hw : W.grownBy W1 row) (hne : some g ≠ row) : IsS127 w0 W1 g f0 f1 := by
 obtain ⟨A0, c0, hb, hg, hr0⟩ := h
 exact ⟨A0, c0, blk_grown hb hw hne, hg, hr0⟩
theorem IsS127.own_neN {w0 W : World} {g : Nat} {f0 : List Int} {f1 : Int} {α : Type} {d : Kd α} {e : Nat} {base : Nat} {ok : Nat → Prop} {v : Value} {xs : List α} (h : IsS127 w0 W g f0 f1) (ho : Kd.N d e W base ok v xs) (ht : e ≠ 127) : some g ≠ v.ownBlock := by
 obtain ⟨A0, c0, hb, hg, hr0⟩ := h
 exact Kd.N_ne ho hb ht
theorem IsS127.fresh {w0 W : World} {g : Nat} {f0 : List Int} {f1 : Int} (h : IsS127 w0 W g f0 f1) : ∀ k, W.heap.size ≤ k → k ≠ g := by
 obtain ⟨A0, c0, hb, hg, hr0⟩ := h
 exact Kd.freshB hb
theorem IsS127.kept {w0 W : World} {g : Nat} {f0 : List Int} {f1 : Int} {W1 : World} {S : Nat → Prop} (h : IsS127 w0 W g f0 f1) (hk : Kept W W1 S) (hne : ¬ S g) : IsS127 w0 W1 g f0 f1 := by
 obtain ⟨A0, c0, hb, hg, hr0⟩ := h
 exact ⟨A0, c0, blk_kept hb hk hne, hg, hr0⟩
theorem IsS127.below {w0 W : World} {g : Nat} {f0 : List Int} {f1 : Int} {W1 : World} (h : IsS127 w0 W g f0 f1) (hw : Below W.heap.size W W1) : IsS127 w0 W1 g f0 f1 := h.grown (grown_of_below hw none) (by simp)
theorem IsS127.alloc {w0 W : World} {g : Nat} {f0 : List Int} {f1 : Int} (h : IsS127 w0 W g f0 f1) (o : Obj) : IsS127 w0 (W.alloc o) g f0 f1 := h.below (below_alloc (Below.refl _ _) o)
theorem IsS127.drewN {w0 W : World} {g : Nat} {f0 : List Int} {f1 : Int} (h : IsS127 w0 W g f0 f1) (m : Nat) : IsS127 w0 (W.drewN m) g f0 f1 := h
theorem IsS127.drew {w0 W : World} {g : Nat} {f0 : List Int} {f1 : Int} (h : IsS127 w0 W g f0 f1) : IsS127 w0 W.drew g f0 f1 := h
theorem IsS127.at_ {w0 W : World} {g : Nat} {f0 : List Int} {f1 : Int} {w' : World} {m : Nat} (hq : W.drewN m = w') (h : IsS127 w0 W g f0 f1) : IsS127 w0 w' g f0 f1 := by subst hq; exact IsS127.drewN h m
theorem IsS127.apart {w0 W : World} {g : Nat} {f0 : List Int} {f1 : Int} {α : Type} {d : Kd α} {e : Nat} {base : Nat} {ok : Nat → Prop} {v : Value} {xs : List α} (h : IsS127 w0 W g f0 f1) (ho : d.R e W base ok v xs) (ht : ∀ q, q ∈ e :: d.E → q ≠ 127) : d.R e W base (fun k => ok k ∧ k ≠ g) v xs := by
 obtain ⟨A0, c0, hb, hg, hr0⟩ := h
 exact Kd.R_types ho hb ht
theorem IsS127.own_ne {w0 W : World} {g : Nat} {f0 : List Int} {f1 : Int} {α : Type} {d : Kd α} {e : Nat} {base : Nat} {ok : Nat → Prop} {v : Value} {xs : List α} (h : IsS127 w0 W g f0 f1) (ho : d.R e W base ok v xs) (ht : e ≠ 127) : some g ≠ v.ownBlock := by
 obtain ⟨A0, c0, hb, hg, hr0⟩ := h
 exact Kd.R_ne ho hb ht
theorem IsS127.apartQ {w0 W : World} {g : Nat} {f0 : List Int} {f1 : Int} {α : Type} {d : Kd α} {e : Nat} {base : Nat} {ok : Nat → Prop} {v : Value} {xs : List α} (h : IsS127 w0 W g f0 f1) (ho : d.Q e W base ok v xs) (ht : ∀ q, q ∈ e :: d.E → q ≠ 127) : d.Q e W base (fun k => ok k ∧ k ≠ g) v xs := by
 obtain ⟨A0, c0, hb, hg, hr0⟩ := h
 exact Kd.Q_types ho hb ht
theorem IsS127.own_neQ {w0 W : World} {g : Nat} {f0 : List Int} {f1 : Int} {α : Type} {d : Kd α} {e : Nat} {base : Nat} {ok : Nat → Prop} {v : Value} {xs : List α} (h : IsS127 w0 W g f0 f1) (ho : d.Q e W base ok v xs) (ht : e ≠ 127) : some g ≠ v.ownBlock := by
 obtain ⟨A0, c0, hb, hg, hr0⟩ := h
 exact Kd.Q_ne ho hb ht
theorem IsS127.apartS {w0 W : World} {g : Nat} {f0 : List Int} {f1 : Int} {α : Type} {d : Kd α} {e : Nat} {base : Nat} {ok : Nat → Prop} {v : Value} {xs : List α} (h : IsS127 w0 W g f0 f1) (ho : d.S e W base ok v xs) (ht : ∀ q, q ∈ e :: d.E → q ≠ 127) : d.S e W base (fun k => ok k ∧ k ≠ g) v xs := by
 obtain ⟨A0, c0, hb, hg, hr0⟩ := h
 exact Kd.S_types ho hb ht
theorem IsS127.own_neS {w0 W : World} {g : Nat} {f0 : List Int} {f1 : Int} {α : Type} {d : Kd α} {e : Nat} {base : Nat} {ok : Nat → Prop} {v : Value} {xs : List α} (h : IsS127 w0 W g f0 f1) (ho : d.S e W base ok v xs) (ht : e ≠ 127) : some g ≠ v.ownBlock := by
 obtain ⟨A0, c0, hb, hg, hr0⟩ := h
 exact Kd.S_ne ho hb ht
theorem IsS127.lt {w0 W : World} {g : Nat} {f0 : List Int} {f1 : Int} (h : IsS127 w0 W g f0 f1) : g < W.heap.size := by
 obtain ⟨A0, c0, hb, hg, hr0⟩ := h
 exact blk_lt hb
theorem IsS127.ge {w0 W : World} {g : Nat} {f0 : List Int} {f1 : Int} (h : IsS127 w0 W g f0 f1) : w0.heap.size ≤ g := by
 obtain ⟨A0, c0, hb, hg, hr0⟩ := h
 exact hg
theorem IsS127.ne_blk {w0 W : World} {g : Nat} {f0 : List Int} {f1 : Int} {a : Nat} {cs : Array Value} {t : TypeId} {fr : Nat × Nat} (h : IsS127 w0 W g f0 f1) (hb2 : W.heap[a]? = some (.cells cs t fr)) (ht : t ≠ 127) : g ≠ a := by
 obtain ⟨A0, c0, hb, hg, hr0⟩ := h
 rintro rfl
 rw [hb] at hb2
 injection hb2 with hb2
 injection hb2 with _ ht2
 exact ht ht2.symm
theorem IsS127.far {w0 W : World} {g : Nat} {f0 : List Int} {f1 : Int} {p : Addr} (h : IsS127 w0 W g f0 f1) (hne : g ≠ p.block) (u : Value) : IsS127 w0 (W.setCell p u) g f0 f1 := by
 obtain ⟨A0, c0, hb, hg, hr0⟩ := h
 exact ⟨A0, c0, blk_far hb hne u, hg, hr0⟩
theorem cellS127_0 {W : World} {g : Nat} {A0 : Option Addr} {c0 : Nat} {f0 : List Int} {f1 : Int} (h : W.heap[g]? = some (.cells #[.slice A0 f0.length c0, .int .i64 f1] 127 (0, 0))) : W.cell? ⟨g, 0, none⟩ = some (.slice A0 f0.length c0) := (blk_cell h 0).trans rfl
theorem cellS127_1 {W : World} {g : Nat} {A0 : Option Addr} {c0 : Nat} {f0 : List Int} {f1 : Int} (h : W.heap[g]? = some (.cells #[.slice A0 f0.length c0, .int .i64 f1] 127 (0, 0))) : W.cell? ⟨g, 1, none⟩ = some (.int .i64 f1) := (blk_cell h 1).trans rfl
theorem IsS127.set_1 {w0 W : World} {g : Nat} {f0 : List Int} {f1 : Int} (h : IsS127 w0 W g f0 f1) (x : Int) : IsS127 w0 (W.setCell ⟨g, 1, none⟩ (.int .i64 x)) g f0 x := by
 obtain ⟨A0, c0, hb, hg, hr0⟩ := h
 exact ⟨A0, c0, by simpa using blk_set hb 1 (.int .i64 x), hg, hr0⟩
theorem IsS127.new (w0 W : World) (A0 : Option Addr) (c0 : Nat) (f0 : List Int) (f1 : Int) (hB : Below w0.heap.size w0 W) (hr0 : Kd.C (Kd.int .u8) w0 A0 f0.length f0) : IsS127 w0 (W.alloc (.cells #[.slice A0 f0.length c0, .int .i64 f1] 127)) W.heap.size f0 f1 := ⟨A0, c0, by simpa using heap_alloc_new W _, hB.size, hr0⟩

/-! ### spec_l1Open: function 64 -/
def spec_l1Open.f (l0 : List Int) : Option (List Int × Int) := if (l0.length : Int) > 2000 then (if 2000 ≤ (l0.length : Int) then (some (l0.take 2000, 0)) else (none)) else (some (l0, 0))
theorem spec_l1Open.calls (A0 : Option Addr) (c0 : Nat) (l0 : List Int) (r1 : List Int) (r2 : Int) (w0 w : World) (hB : Below w0.heap.size w0 w) (hr0 : Kd.C (Kd.int .u8) w0 A0 l0.length l0) (hc0 : l0.length ≤ c0) (h : spec_l1Open.f l0 = some (r1, r2)) :
  Calls Try.prog 64 #[.slice A0 l0.length c0] w fun e w' => ∃ g_ : Nat, e = .returned (.pointer (some ⟨g_, 0, none⟩)) ∧ IsS127 w0 w' g_ r1 r2 ∧ Below w0.heap.size w0 w' ∧ Below w.heap.size w w' := by
 have hu127 := Try.underlying127; have HR0 := am hr0; have HC0 := am hc0; clear hr0 hc0; have HBW := am (Below.refl w.heap.size w); have HW0 := am hB.size; have HB := am hB; clear hB
 have H : (if (l0.length : Int) > 2000 then (if 2000 ≤ (l0.length : Int) then (some (l0.take 2000, 0)) else (none)) else (some (l0, 0))) = some (r1, r2) := h
 clear h
 by_cases c2 : (l0.length : Int) > 2000
 ·rw [if_pos c2] at H; have c2b0 := decide_eq_true c2
  have c2b1 : decide (2000 < l0.length) = true := decide_eq_true (by omega)
  clear c2
  replace H := ip H; obtain ⟨c3, H⟩ := H; have c3b0 := eq_true c3
  have c3b1 : decide (2000 ≤ (l0.length : Int)) = true := decide_eq_true c3
  clear c3
  simp only [Option.some.injEq, Prod.mk.injEq] at H
  obtain ⟨rfl, rfl⟩ := H; obtain ⟨i04, hi04, _, hsz4, _⟩ := info_parts info5
  obtain ⟨hcut4, hA4, hC4⟩ := print_take_of (P := Try.prog) (Value.int .u8) 0 31 5 .i64 Try.underlying31 hi04 hsz4 A0 c0 l0 2000 (by omega) (of_decide_eq_true ad) HC0.out
  have HR271 := am (Kd.C_of_reads (h1 := fun _ => rfl) (hA4 _ (Kd.reads_of_C HR0.out))); have HC271 := am hC4; clear hA4 hC4 hi04 hsz4; go_enter Try.func64, Try.ntmps64
  go_wp2_with (first | ((with_reducible refine gate_dst (N := 10) rfl ?_); refine bx 10 (cs := #[.slice A0 (l0.take 2000).length c0, .int .i64 0]) (t := 127) ?_; intro gb272 hg w5 hbox hb; replace HB := am (below_step bel hb); have BK272 := am (hbox); have GW272 := am ((b34_ : w.heap.size ≤ gb272)); have GE272 := am ((Nat.le_trans HW0.out (b34_ : w.heap.size ≤ gb272) : w0.heap.size ≤ gb272)); replace HBW := am (below_step HBW.out hb); clear hb hbox hg))
  go_ret
  exact ⟨_, rfl, (show IsS127 w0 _ gb272 (l0.take 2000) 0 from ⟨_, _, by (with_reducible repeat (first | refine blk_drewN ?_ _ | refine blk_drew ?_ | refine blk_alloc ?_ _)); exact BK272.out, GE272.out, HR271.out⟩), bel1 GE272.out, by repeat (first | (with_reducible first | exact HBW.out | apply below_alloc | apply pw_below_drewN | apply below_drew1 | refine below_set ?_ GW272.out) | exact HBW.out)⟩
 rw [if_neg c2] at H; have c2b0 := decide_eq_false c2
 have c2b1 : decide (2000 < l0.length) = false := decide_eq_false (by omega)
 clear c2
 simp only [Option.some.injEq, Prod.mk.injEq] at H
 obtain ⟨rfl, rfl⟩ := H; go_enter Try.func64, Try.ntmps64
 go_wp2_with (first | ((with_reducible refine gate_dst (N := 10) rfl ?_); refine bx 10 (cs := #[.slice A0 l0.length c0, .int .i64 0]) (t := 127) ?_; intro gb273 hg w6 hbox hb; replace HB := am (below_step bel hb); have BK273 := am (hbox); have GW273 := am ((b34_ : w.heap.size ≤ gb273)); have GE273 := am ((Nat.le_trans HW0.out (b34_ : w.heap.size ≤ gb273) : w0.heap.size ≤ gb273)); replace HBW := am (below_step HBW.out hb); clear hb hbox hg))
 go_ret
 exact ⟨_, rfl, (show IsS127 w0 _ gb273 l0 0 from ⟨_, _, by (with_reducible repeat (first | refine blk_drewN ?_ _ | refine blk_drew ?_ | refine blk_alloc ?_ _)); exact BK273.out, GE273.out, HR0.out⟩), bel1 GE273.out, by repeat (first | (with_reducible first | exact HBW.out | apply below_alloc | apply pw_below_drewN | apply below_drew1 | refine below_set ?_ GW273.out) | exact HBW.out)⟩

/-! ### spec_l1Rd_pick: function 67 -/
def spec_l1Rd_pick.j0 : Nat → Int → Bool → List Int → Int → Option (Int × Int)
 | 0, _, _, _, _ => none
 | k + 1, x1, x24, x1000, x1001 => if x24 = true then (some (0, x1001)) else (if (wrap64 (x1001 - 1)) < (x1000.length : Int) then (if 0 ≤ (wrap64 (x1001 - 1)) then (if x1 = 0 then (none) else (some (Int.tmod (wrap64 (rd x1000 (wrap64 (x1001 - 1)))) x1, x1001))) else (none)) else (if (x1000.length : Int) = 0 then (none) else (if 0 ≤ (Int.tmod (wrap64 (x1001 - 1)) (x1000.length : Int)) then (if (Int.tmod (wrap64 (x1001 - 1)) (x1000.length : Int)) < (x1000.length : Int) then (if 0 ≤ (Int.tmod (wrap64 ((wrap64 ((wrap64 (x1001 - 1)) * 7)) + 3)) (x1000.length : Int)) then (if (Int.tmod (wrap64 ((wrap64 ((wrap64 (x1001 - 1)) * 7)) + 3)) (x1000.length : Int)) < (x1000.length : Int) then (if x1 = 0 then (none) else (some (Int.tmod (Go.bits .xor .i64 (wrap64 ((wrap64 ((wrap64 ((wrap64 ((wrap64 (rd x1000 (Int.tmod (wrap64 (x1001 - 1)) (x1000.length : Int)))) * 131)) + (wrap64 ((wrap64 (rd x1000 (Int.tmod (wrap64 ((wrap64 ((wrap64 (x1001 - 1)) * 7)) + 3)) (x1000.length : Int)))) * 1117)))) + (wrap64 ((wrap64 (x1001 - 1)) * 29)))) + (wrap64 ((wrap64 (Int.tdiv (wrap64 (x1001 - 1)) (x1000.length : Int))) * 53)))) (wrap64 (Int.tdiv (wrap64 ((wrap64 ((wrap64 ((wrap64 ((wrap64 (rd x1000 (Int.tmod (wrap64 (x1001 - 1)) (x1000.length : Int)))) * 131)) + (wrap64 ((wrap64 (rd x1000 (Int.tmod (wrap64 ((wrap64 ((wrap64 (x1001 - 1)) * 7)) + 3)) (x1000.length : Int)))) * 1117)))) + (wrap64 ((wrap64 (x1001 - 1)) * 29)))) + (wrap64 ((wrap64 (Int.tdiv (wrap64 (x1001 - 1)) (x1000.length : Int))) * 53)))) 64))) x1, x1001))) else (none)) else (none)) else (none)) else (none))))
def spec_l1Rd_pick.f (k : Nat) (s0_0 : List Int) (s0_1 : Int) (a1 : Int) : Option (Int × Int) := if a1 < 1 then (spec_l1Rd_pick.j0 k a1 true s0_0 (wrap64 (s0_1 + 1))) else (spec_l1Rd_pick.j0 k a1 ((s0_0.length : Int) == 0) s0_0 (wrap64 (s0_1 + 1)))
theorem spec_l1Rd_pick.calls (k : Nat) (g : Nat) (s0_0 : List Int) (s0_1 : Int) (a1 : Int) (r1 : Int) (r2 : Int) (w0 w : World) (hI : IsS127 w0 w g s0_0 s0_1) (hB : Below w0.heap.size w0 w) (h : spec_l1Rd_pick.f k s0_0 s0_1 a1 = some (r1, r2)) :
  Calls Try.prog 67 #[.pointer (some ⟨g, 0, none⟩), .int .i64 a1] w fun e w' => e = .returned (.int .i64 r1) ∧ IsS127 w0 w' g s0_0 r2 ∧ Below w0.heap.size w0 w' ∧ KeepBut w w' g none := by
 have HI0 := am hI; have HK := am (KeepBut.refl w g none); have HL := am hB.size; clear hI; have HW0 := am hB.size; have HB := am hB; clear hB
 have H : (if a1 < 1 then (spec_l1Rd_pick.j0 k a1 true s0_0 (wrap64 (s0_1 + 1))) else (spec_l1Rd_pick.j0 k a1 ((s0_0.length : Int) == 0) s0_0 (wrap64 (s0_1 + 1)))) = some (r1, r2) := h
 clear h; have HC3 := am H; clear H; obtain ⟨ASz4_0, cSz4_0, HGz4, hgz4, HSz4_0⟩ := HI0.out; have hcz4_0 := cellS127_0 HGz4; have hcz4_1 := cellS127_1 HGz4; have hfz4_1 := bf HGz4 1; clear HGz4 hgz4; go_enter Try.func67, Try.ntmps67
 go_upto_region 2 with (fail)
 repeat (go_quiet (fail); go_upto_region 2 with (fail))
 go_cut [24] (fun v24 wc => ∃ (kq : Nat) (x24_2 : Bool), v24 = .bool x24_2 ∧ Aside0 (spec_l1Rd_pick.j0 kq a1 x24_2 s0_0 (wrap64 (s0_1 + 1)) = some (r1, r2)) ∧ Aside0 (kq ≤ k) ∧ Aside0 (IsS127 w0 wc g s0_0 (wrap64 (s0_1 + 1))) ∧ Aside0 (KeepBut w wc g none) ∧ Aside0 (Below w0.heap.size w0 wc))
 case first =>
  have H := HC3.out; clear HC3
  by_cases c5 : a1 < 1
  ·rw [if_pos c5] at H; have c5b0 := decide_eq_true c5; clear c5
   (first | rw [c5b0] | (simp only [i64_w, i32_w]; rw [c5b0]) | skip)
   have H' := am H
   clear H; go_wp2
   repeat (go_quiet (fail); try go_wp2)
   go_meet
   case rel => exact ⟨_, (true), sq, H', ⟨b46_⟩, ⟨b2_⟩, ⟨b0_⟩, ⟨b1_⟩⟩
  rw [if_neg c5] at H; have c5b0 := decide_eq_false c5; clear c5
  (first | rw [c5b0] | (simp only [i64_w, i32_w]; rw [c5b0]) | skip)
  have H' := am H
  clear H; obtain ⟨ASz6_0, cSz6_0, HGz6, hgz6, HSz6_0⟩ := HI0.out; have hcz6_0 := cellS127_0 HGz6; have hcz6_1 := cellS127_1 HGz6; have hfz6_1 := bf HGz6 1; clear HGz6 hgz6; go_wp2
  repeat (go_quiet (fail); try go_wp2)
  go_meet
  case rel => exact ⟨_, (((s0_0.length : Int) == 0)), sq, H', ⟨b46_⟩, ⟨b2_⟩, ⟨b0_⟩, ⟨b1_⟩⟩
 case rest =>
  clear HC3; (try clear p2); (try clear c5); (try clear c5b0); (try clear c6); (try clear p6); (try clear hcz4_0); (try clear hcz4_1); (try clear hcz6_0); (try clear hcz6_1); (try clear hfz4_1); (try clear hfz6_1); obtain ⟨kq, x24_2, rfl, HA, HJ2, HI0, HK, HB⟩ := hcut
  cases kq with
  | zero => exact absurd HA.out (by simp [spec_l1Rd_pick.j0])
  | succ kj2 =>
   have H := HA.out; clear HA
   simp only [spec_l1Rd_pick.j0] at H
   by_cases c7 : x24_2 = true
   ·subst c7
    have H1 : (some (0, (wrap64 (s0_1 + 1)))) = some (r1, r2) := b19_
    replace H := H1; clear H1
    simp only [Option.some.injEq, Prod.mk.injEq] at H
    obtain ⟨rfl, rfl⟩ := H; go_wp2
    repeat (go_quiet (fail); try go_wp2)
    go_ret
    exact ⟨eq_, b2_, b1_, b0_⟩
   replace c7 := Bool.eq_false_iff.mpr c7; subst c7
   have H1 : (if (wrap64 ((wrap64 (s0_1 + 1)) - 1)) < (s0_0.length : Int) then (if 0 ≤ (wrap64 ((wrap64 (s0_1 + 1)) - 1)) then (if a1 = 0 then (none) else (some (Int.tmod (wrap64 (rd s0_0 (wrap64 ((wrap64 (s0_1 + 1)) - 1)))) a1, (wrap64 (s0_1 + 1))))) else (none)) else (if (s0_0.length : Int) = 0 then (none) else (if 0 ≤ (Int.tmod (wrap64 ((wrap64 (s0_1 + 1)) - 1)) (s0_0.length : Int)) then (if (Int.tmod (wrap64 ((wrap64 (s0_1 + 1)) - 1)) (s0_0.length : Int)) < (s0_0.length : Int) then (if 0 ≤ (Int.tmod (wrap64 ((wrap64 ((wrap64 ((wrap64 (s0_1 + 1)) - 1)) * 7)) + 3)) (s0_0.length : Int)) then (if (Int.tmod (wrap64 ((wrap64 ((wrap64 ((wrap64 (s0_1 + 1)) - 1)) * 7)) + 3)) (s0_0.length : Int)) < (s0_0.length : Int) then (if a1 = 0 then (none) else (some (Int.tmod (Go.bits .xor .i64 (wrap64 ((wrap64 ((wrap64 ((wrap64 ((wrap64 (rd s0_0 (Int.tmod (wrap64 ((wrap64 (s0_1 + 1)) - 1)) (s0_0.length : Int)))) * 131)) + (wrap64 ((wrap64 (rd s0_0 (Int.tmod (wrap64 ((wrap64 ((wrap64 ((wrap64 (s0_1 + 1)) - 1)) * 7)) + 3)) (s0_0.length : Int)))) * 1117)))) + (wrap64 ((wrap64 ((wrap64 (s0_1 + 1)) - 1)) * 29)))) + (wrap64 ((wrap64 (Int.tdiv (wrap64 ((wrap64 (s0_1 + 1)) - 1)) (s0_0.length : Int))) * 53)))) (wrap64 (Int.tdiv (wrap64 ((wrap64 ((wrap64 ((wrap64 ((wrap64 (rd s0_0 (Int.tmod (wrap64 ((wrap64 (s0_1 + 1)) - 1)) (s0_0.length : Int)))) * 131)) + (wrap64 ((wrap64 (rd s0_0 (Int.tmod (wrap64 ((wrap64 ((wrap64 ((wrap64 (s0_1 + 1)) - 1)) * 7)) + 3)) (s0_0.length : Int)))) * 1117)))) + (wrap64 ((wrap64 ((wrap64 (s0_1 + 1)) - 1)) * 29)))) + (wrap64 ((wrap64 (Int.tdiv (wrap64 ((wrap64 (s0_1 + 1)) - 1)) (s0_0.length : Int))) * 53)))) 64))) a1, (wrap64 (s0_1 + 1))))) else (none)) else (none)) else (none)) else (none)))) = some (r1, r2) := b7_
   replace H := H1; clear H1
   by_cases c8 : (wrap64 ((wrap64 (s0_1 + 1)) - 1)) < (s0_0.length : Int)
   ·rw [if_pos c8] at H; have c8b0 := decide_eq_true c8; clear c8; obtain ⟨ji9, hji9⟩ : ∃ j_ : Int, (wrap64 ((wrap64 (s0_1 + 1)) - 1)) = j_ := ⟨_, rfl⟩
    replace H : (if 0 ≤ (ji9) then (if a1 = 0 then (none) else (some (Int.tmod (wrap64 (rd s0_0 (ji9))) a1, (wrap64 (s0_1 + 1))))) else (none)) = some (r1, r2) := by first | (rw [hji9] at H; exact H) | (simp only [hji9] at H ⊢; exact H)
    (try rw [hji9] at c8b0)
    have hji9w : (IntKind.i64.wrap ((wrap64 (s0_1 + 1)) - 1)) = ji9 := (i64_w _).trans hji9
    replace H := it H; obtain ⟨c10b0, H⟩ := H
    replace H := iq H; obtain ⟨c11, H⟩ := H
    have c11b0 : (a1 == 0) = false := beq_eq_false_iff_ne.mpr c11
    have c11b1 : (a1 != 0) = true := bne_iff_ne.mpr c11
    simp only [Option.some.injEq, Prod.mk.injEq] at H
    obtain ⟨rfl, rfl⟩ := H; obtain ⟨ASz12_0, cSz12_0, HGz12, hgz12, HSz12_0⟩ := HI0.out; have hcz12_0 := cellS127_0 HGz12; have hcz12_1 := cellS127_1 HGz12; have hfz12_1 := bf HGz12 1; clear HGz12 hgz12
    have p274 : 0 ≤ ((ji9) : Int) := of_decide_eq_true ad
    have q274 : (ji9) < (s0_0.length : Int) := of_decide_eq_true ad
    obtain ⟨ad274, e274, hx274_0⟩ := Kd.at_int HSz12_0 (ji9) p274 q274
    cases e274
    replace hx274_0 := pw_cell_below HB.out hx274_0; replace p274 := eq_true p274; replace q274 := eq_true q274; go_wp2
    repeat (go_quiet (fail); try go_wp2)
    go_ret
    exact ⟨by first | rfl | (simp [errW_none, errW_some] <;> rfl) | (simp only [← hji9]; first | rfl | (simp [errW_none, errW_some] <;> rfl)) | (simp [*, errW_none, errW_some] <;> rfl), b2_, b1_, b0_⟩
   rw [if_neg c8] at H; have c8b0 := decide_eq_false c8; clear c8
   replace H := iq H; obtain ⟨c13, H⟩ := H
   have c13b0 : ((s0_0.length : Int) == 0) = false := beq_eq_false_iff_ne.mpr c13
   have c13b1 : ((s0_0.length : Int) != 0) = true := bne_iff_ne.mpr c13
   have c13b2 : ¬ (s0_0 = []) := fun h_ => c13 (by rw [h_]; rfl)
   obtain ⟨ji14, hji14⟩ : ∃ j_ : Int, (Int.tmod (wrap64 ((wrap64 (s0_1 + 1)) - 1)) (s0_0.length : Int)) = j_ := ⟨_, rfl⟩
   replace H : (if 0 ≤ (ji14) then (if (ji14) < (s0_0.length : Int) then (if 0 ≤ (Int.tmod (wrap64 ((wrap64 ((wrap64 ((wrap64 (s0_1 + 1)) - 1)) * 7)) + 3)) (s0_0.length : Int)) then (if (Int.tmod (wrap64 ((wrap64 ((wrap64 ((wrap64 (s0_1 + 1)) - 1)) * 7)) + 3)) (s0_0.length : Int)) < (s0_0.length : Int) then (if a1 = 0 then (none) else (some (Int.tmod (Go.bits .xor .i64 (wrap64 ((wrap64 ((wrap64 ((wrap64 ((wrap64 (rd s0_0 (ji14))) * 131)) + (wrap64 ((wrap64 (rd s0_0 (Int.tmod (wrap64 ((wrap64 ((wrap64 ((wrap64 (s0_1 + 1)) - 1)) * 7)) + 3)) (s0_0.length : Int)))) * 1117)))) + (wrap64 ((wrap64 ((wrap64 (s0_1 + 1)) - 1)) * 29)))) + (wrap64 ((wrap64 (Int.tdiv (wrap64 ((wrap64 (s0_1 + 1)) - 1)) (s0_0.length : Int))) * 53)))) (wrap64 (Int.tdiv (wrap64 ((wrap64 ((wrap64 ((wrap64 ((wrap64 (rd s0_0 (ji14))) * 131)) + (wrap64 ((wrap64 (rd s0_0 (Int.tmod (wrap64 ((wrap64 ((wrap64 ((wrap64 (s0_1 + 1)) - 1)) * 7)) + 3)) (s0_0.length : Int)))) * 1117)))) + (wrap64 ((wrap64 ((wrap64 (s0_1 + 1)) - 1)) * 29)))) + (wrap64 ((wrap64 (Int.tdiv (wrap64 ((wrap64 (s0_1 + 1)) - 1)) (s0_0.length : Int))) * 53)))) 64))) a1, (wrap64 (s0_1 + 1))))) else (none)) else (none)) else (none)) else (none)) = some (r1, r2) := by first | (rw [hji14] at H; exact H) | (simp only [hji14] at H ⊢; exact H)
   replace H := it H; obtain ⟨c15b0, H⟩ := H
   replace H := it H; obtain ⟨c16b0, H⟩ := H; obtain ⟨ji17, hji17⟩ : ∃ j_ : Int, (Int.tmod (wrap64 ((wrap64 ((wrap64 ((wrap64 (s0_1 + 1)) - 1)) * 7)) + 3)) (s0_0.length : Int)) = j_ := ⟨_, rfl⟩
   replace H : (if 0 ≤ (ji17) then (if (ji17) < (s0_0.length : Int) then (if a1 = 0 then (none) else (some (Int.tmod (Go.bits .xor .i64 (wrap64 ((wrap64 ((wrap64 ((wrap64 ((wrap64 (rd s0_0 (ji14))) * 131)) + (wrap64 ((wrap64 (rd s0_0 (ji17))) * 1117)))) + (wrap64 ((wrap64 ((wrap64 (s0_1 + 1)) - 1)) * 29)))) + (wrap64 ((wrap64 (Int.tdiv (wrap64 ((wrap64 (s0_1 + 1)) - 1)) (s0_0.length : Int))) * 53)))) (wrap64 (Int.tdiv (wrap64 ((wrap64 ((wrap64 ((wrap64 ((wrap64 (rd s0_0 (ji14))) * 131)) + (wrap64 ((wrap64 (rd s0_0 (ji17))) * 1117)))) + (wrap64 ((wrap64 ((wrap64 (s0_1 + 1)) - 1)) * 29)))) + (wrap64 ((wrap64 (Int.tdiv (wrap64 ((wrap64 (s0_1 + 1)) - 1)) (s0_0.length : Int))) * 53)))) 64))) a1, (wrap64 (s0_1 + 1))))) else (none)) else (none)) = some (r1, r2) := by first | (rw [hji17] at H; exact H) | (simp only [hji17] at H ⊢; exact H)
   replace H := it H; obtain ⟨c18b0, H⟩ := H
   replace H := it H; obtain ⟨c19b0, H⟩ := H
   replace H := iq H; obtain ⟨c20, H⟩ := H
   have c20b0 : (a1 == 0) = false := beq_eq_false_iff_ne.mpr c20
   have c20b1 : (a1 != 0) = true := bne_iff_ne.mpr c20
   simp only [Option.some.injEq, Prod.mk.injEq] at H
   obtain ⟨rfl, rfl⟩ := H; obtain ⟨ASz21_0, cSz21_0, HGz21, hgz21, HSz21_0⟩ := HI0.out; have hcz21_0 := cellS127_0 HGz21; have hcz21_1 := cellS127_1 HGz21; have hfz21_1 := bf HGz21 1; clear HGz21 hgz21
   have p275 : 0 ≤ ((ji14) : Int) := of_decide_eq_true ad
   have q275 : (ji14) < (s0_0.length : Int) := of_decide_eq_true ad
   obtain ⟨ad275, e275, hx275_0⟩ := Kd.at_int HSz21_0 (ji14) p275 q275
   cases e275
   replace hx275_0 := pw_cell_below HB.out hx275_0; replace p275 := eq_true p275; replace q275 := eq_true q275
   have p276 : 0 ≤ ((ji17) : Int) := of_decide_eq_true ad
   have q276 : (ji17) < (s0_0.length : Int) := of_decide_eq_true ad
   obtain ⟨ad276, e276, hx276_0⟩ := Kd.at_int HSz21_0 (ji17) p276 q276
   obtain rfl : ad275 = ad276 := (by injection e276)
   replace hx276_0 := pw_cell_below HB.out hx276_0; replace p276 := eq_true p276; replace q276 := eq_true q276; go_wp2
   repeat (go_quiet (fail); try go_wp2)
   go_ret
   exact ⟨by first | rfl | (simp [errW_none, errW_some] <;> rfl) | (simp only [← hji14, ← hji17]; first | rfl | (simp [errW_none, errW_some] <;> rfl)) | (simp [*, errW_none, errW_some] <;> rfl), b2_, b1_, b0_⟩

/-! ### spec_l1Rd_of: function 110 -/
def spec_l1Rd_of.f (k : Nat) (s0_0 : List Int) (s0_1 : Int) (l1 : List ByteArray) : Option (ByteArray × Int) := (spec_l1Rd_pick.f k s0_0 s0_1 (l1.length : Int)).bind fun bt277 => (if 0 ≤ bt277.1 then (if bt277.1 < (l1.length : Int) then (some (rdOf ByteArray.empty l1 bt277.1, bt277.2)) else (none)) else (none))
theorem spec_l1Rd_of.calls (k : Nat) (g : Nat) (s0_0 : List Int) (s0_1 : Int) (A1 : Option Addr) (c1 : Nat) (l1 : List ByteArray) (r1 : ByteArray) (r2 : Int) (w0 w : World) (hI : IsS127 w0 w g s0_0 s0_1) (hB : Below w0.heap.size w0 w) (hr1 : Kd.C Kd.string w A1 l1.length l1) (hc1 : l1.length ≤ c1) (hf1 : ∀ ad, A1 = some ad → 0 < l1.length → ad.block ≠ g) (h : spec_l1Rd_of.f k s0_0 s0_1 l1 = some (r1, r2)) :
  Calls Try.prog 110 #[.pointer (some ⟨g, 0, none⟩), .slice A1 l1.length c1] w fun e w' => e = .returned (.string r1) ∧ IsS127 w0 w' g s0_0 r2 ∧ Below w0.heap.size w0 w' ∧ KeepBut w w' g none := by
 have HR1 := am hr1; have HC1 := am hc1; clear hr1 hc1; have HI0 := am hI; have HK := am (KeepBut.refl w g none); have HL := am hB.size; clear hI; have HW0 := am hB.size; have HB := am hB; clear hB
 have H : ((spec_l1Rd_pick.f k s0_0 s0_1 (l1.length : Int)).bind fun bt277 => (if 0 ≤ bt277.1 then (if bt277.1 < (l1.length : Int) then (some (rdOf ByteArray.empty l1 bt277.1, bt277.2)) else (none)) else (none))) = some (r1, r2) := h
 clear h; replace H := bs H; obtain ⟨⟨t277, t278⟩, A30, H⟩ := H; replace H : (if 0 ≤ t277 then (if t277 < (l1.length : Int) then (some (rdOf ByteArray.empty l1 t277, t278)) else (none)) else (none)) = some (r1, r2) := H; have A3 := Aside0.mk A30; clear A30
 replace H := it H; obtain ⟨c4b0, H⟩ := H
 replace H := it H; obtain ⟨c5b0, H⟩ := H
 simp only [Option.some.injEq, Prod.mk.injEq] at H
 obtain ⟨rfl, rfl⟩ := H; go_enter Try.func110, Try.ntmps110
 go_wp2_with (first | ((with_reducible refine gate_callee (f := 67) rfl ?_); refine goesL_ (some 9) rfl rfl Try.func67 (by kernel_rfl) rfl #[.pointer (some ⟨g, 0, none⟩), .int .i64 (l1.length : Int)] rfl mq ?_; (with_reducible refine (spec_l1Rd_pick.calls k g s0_0 s0_1 (l1.length : Int) t277 t278 w0 _ ?side1 ?side2 A3.out).mono ?_); (case side1 => repeat (first | (with_reducible first | exact HI0.out | apply IsS127.alloc | apply IsS127.drewN | apply IsS127.drew | apply IsS127.set_1) | exact HI0.out)); (case side2 => repeat (first | (with_reducible first | exact HB.out | apply below_alloc | apply pw_below_drewN | apply below_drew1 | refine below_set ?_ (IsS127.ge HI0.out)) | exact HB.out)); rintro e w6 ⟨rfl, hi, hb, hk⟩; refine ⟨_, rfl, ?_⟩; replace HK := am (KeepBut.trans b0_ hk (.inl rfl)); replace HB := am (hb); replace HI0 := am (hi); (try clear hb); (try clear hb2); (try clear hk); (try clear hi); have p279 : 0 ≤ (t277 : Int) := of_decide_eq_true ad; have q279 : t277 < (l1.length : Int) := of_decide_eq_true ad; obtain ⟨ad279, e279, hx279_0⟩ := Kd.at_string HR1.out t277 p279 q279; cases e279; replace hx279_0 := keep_cell HK.out hx279_0 (by first | (rw [add_block]; exact hf1 _ rfl (by omega)) | exact hf1 _ rfl (by omega) | exact hf1 ad279 rfl (by omega)); replace p279 := eq_true p279; replace q279 := eq_true q279))
 go_ret
 exact ⟨eq_, b2_, b1_, b0_⟩

/-! ### spec_l13Word: function 111 -/
def spec_l13Word.l0 : Nat → ByteArray → Int → List Int → Int → Option (ByteArray × Int)
 | 0, _, _, _, _ => none
 | k + 1, x3, x4, x1000, x1001 => if x4 > 0 then ((spec_l1Rd_of.f k x1000 x1001 (([(⟨#[97]⟩ : ByteArray), (⟨#[98]⟩ : ByteArray), (⟨#[99]⟩ : ByteArray), (⟨#[97, 98]⟩ : ByteArray), (⟨#[116]⟩ : ByteArray)] : List ByteArray))).bind fun bt287 => (if x3.size + bt287.1.size ≤ 9223372036854775807 then (spec_l13Word.l0 k (x3 ++ bt287.1) (wrap64 (x4 - 1)) x1000 bt287.2) else (none))) else ((spec_l1Least.f (x3.size : Int) 12).bind fun t289 => (if 0 ≤ t289 then (if t289 ≤ (x3.size : Int) then (some (x3.extract 0 (t289 : Int).toNat, x1001)) else (none)) else (none)))
def spec_l13Word.f (k : Nat) (s0_0 : List Int) (s0_1 : Int) : Option (ByteArray × Int) := (spec_l1Rd_pick.f k s0_0 s0_1 3).bind fun bt280 => (if bt280.1 = 0 then ((spec_l1Rd_pick.f k s0_0 bt280.2 5).bind fun bt282 => (spec_l13Word.l0 k (⟨#[]⟩ : ByteArray) (wrap64 (1 + bt282.1)) s0_0 bt282.2)) else ((spec_l1Rd_of.f k s0_0 bt280.2 (([(⟨#[99, 97, 116]⟩ : ByteArray), (⟨#[99, 97, 116, 115]⟩ : ByteArray), (⟨#[97, 99, 116]⟩ : ByteArray), (⟨#[100, 111]⟩ : ByteArray), (⟨#[100, 111, 105, 110, 103]⟩ : ByteArray), (⟨#[103, 111]⟩ : ByteArray), (⟨#[117, 110, 100, 111]⟩ : ByteArray), (⟨#[116, 114, 121]⟩ : ByteArray), (⟨#[116, 114, 105, 101, 115]⟩ : ByteArray), (⟨#[97]⟩ : ByteArray), (⟨#[98, 97, 107, 101]⟩ : ByteArray), (⟨#[98, 97, 107, 105, 110, 103]⟩ : ByteArray), (⟨#[116, 97, 99, 116]⟩ : ByteArray), (⟨#[99, 97, 114, 116]⟩ : ByteArray), (⟨#[97, 98, 99, 97, 98, 99, 97, 98, 99, 97, 98, 99]⟩ : ByteArray)] : List ByteArray))).bind fun bt293 => (some (bt293.1, bt293.2))))
theorem spec_l13Word.calls (k : Nat) (g : Nat) (s0_0 : List Int) (s0_1 : Int) (r1 : ByteArray) (r2 : Int) (w0 w : World) (hI : IsS127 w0 w g s0_0 s0_1) (hB : Below w0.heap.size w0 w) (h : spec_l13Word.f k s0_0 s0_1 = some (r1, r2)) :
  Calls Try.prog 111 #[.pointer (some ⟨g, 0, none⟩)] w fun e w' => e = .returned (.string r1) ∧ IsS127 w0 w' g s0_0 r2 ∧ Below w0.heap.size w0 w' ∧ KeepBut w w' g none := by
 have HI0 := am hI; have HK := am (KeepBut.refl w g none); have HL := am hB.size; clear hI; have HW0 := am hB.size; have HB := am hB; clear hB
 have H : ((spec_l1Rd_pick.f k s0_0 s0_1 3).bind fun bt280 => (if bt280.1 = 0 then ((spec_l1Rd_pick.f k s0_0 bt280.2 5).bind fun bt282 => (spec_l13Word.l0 k (⟨#[]⟩ : ByteArray) (wrap64 (1 + bt282.1)) s0_0 bt282.2)) else ((spec_l1Rd_of.f k s0_0 bt280.2 (([(⟨#[99, 97, 116]⟩ : ByteArray), (⟨#[99, 97, 116, 115]⟩ : ByteArray), (⟨#[97, 99, 116]⟩ : ByteArray), (⟨#[100, 111]⟩ : ByteArray), (⟨#[100, 111, 105, 110, 103]⟩ : ByteArray), (⟨#[103, 111]⟩ : ByteArray), (⟨#[117, 110, 100, 111]⟩ : ByteArray), (⟨#[116, 114, 121]⟩ : ByteArray), (⟨#[116, 114, 105, 101, 115]⟩ : ByteArray), (⟨#[97]⟩ : ByteArray), (⟨#[98, 97, 107, 101]⟩ : ByteArray), (⟨#[98, 97, 107, 105, 110, 103]⟩ : ByteArray), (⟨#[116, 97, 99, 116]⟩ : ByteArray), (⟨#[99, 97, 114, 116]⟩ : ByteArray), (⟨#[97, 98, 99, 97, 98, 99, 97, 98, 99, 97, 98, 99]⟩ : ByteArray)] : List ByteArray))).bind fun bt293 => (some (bt293.1, bt293.2))))) = some (r1, r2) := h
 clear h; replace H := bs H; obtain ⟨⟨t280, t281⟩, A20, H⟩ := H; replace H : (if t280 = 0 then ((spec_l1Rd_pick.f k s0_0 t281 5).bind fun bt282 => (spec_l13Word.l0 k (⟨#[]⟩ : ByteArray) (wrap64 (1 + bt282.1)) s0_0 bt282.2)) else ((spec_l1Rd_of.f k s0_0 t281 (([(⟨#[99, 97, 116]⟩ : ByteArray), (⟨#[99, 97, 116, 115]⟩ : ByteArray), (⟨#[97, 99, 116]⟩ : ByteArray), (⟨#[100, 111]⟩ : ByteArray), (⟨#[100, 111, 105, 110, 103]⟩ : ByteArray), (⟨#[103, 111]⟩ : ByteArray), (⟨#[117, 110, 100, 111]⟩ : ByteArray), (⟨#[116, 114, 121]⟩ : ByteArray), (⟨#[116, 114, 105, 101, 115]⟩ : ByteArray), (⟨#[97]⟩ : ByteArray), (⟨#[98, 97, 107, 101]⟩ : ByteArray), (⟨#[98, 97, 107, 105, 110, 103]⟩ : ByteArray), (⟨#[116, 97, 99, 116]⟩ : ByteArray), (⟨#[99, 97, 114, 116]⟩ : ByteArray), (⟨#[97, 98, 99, 97, 98, 99, 97, 98, 99, 97, 98, 99]⟩ : ByteArray)] : List ByteArray))).bind fun bt293 => (some (bt293.1, bt293.2)))) = some (r1, r2) := H; have A2 := Aside0.mk A20; clear A20
 by_cases c3 : t280 = 0
 ·rw [if_pos c3] at H
  have c3b0 : (t280 == 0) = true := beq_iff_eq.mpr c3
  have c3b1 : (t280 != 0) = false := bne_eq_false_iff_eq.mpr c3
  clear c3; replace H := bs H; obtain ⟨⟨t282, t283⟩, A40, H⟩ := H; replace H : (spec_l13Word.l0 k (⟨#[]⟩ : ByteArray) (wrap64 (1 + t282)) s0_0 t283) = some (r1, r2) := H; have A4 := Aside0.mk A40; clear A40
  have H' := am H
  clear H; go_enter Try.func111, Try.ntmps111
  go_wp2_with (first | ((with_reducible refine gate_callee (f := 67) rfl ?_); refine goesL_ (some 6) rfl rfl Try.func67 (by kernel_rfl) rfl #[.pointer (some ⟨g, 0, none⟩), .int .i64 3] rfl mq ?_; (with_reducible refine (spec_l1Rd_pick.calls k g s0_0 s0_1 3 t280 t281 w0 _ ?side1 ?side2 A2.out).mono ?_); (case side1 => repeat (first | (with_reducible first | exact HI0.out | apply IsS127.alloc | apply IsS127.drewN | apply IsS127.drew | apply IsS127.set_1) | exact HI0.out)); (case side2 => repeat (first | (with_reducible first | exact HB.out | apply below_alloc | apply pw_below_drewN | apply below_drew1 | refine below_set ?_ (IsS127.ge HI0.out)) | exact HB.out)); rintro e w5 ⟨rfl, hi, hb, hk⟩; refine ⟨_, rfl, ?_⟩; replace HK := am (KeepBut.trans b0_ hk (.inl rfl)); replace HB := am (hb); replace HI0 := am (hi); (try clear hb); (try clear hb2); (try clear hk); (try clear hi)) | ((with_reducible refine gate_callee (f := 67) rfl ?_); refine goesL_ (some 9) rfl rfl Try.func67 (by kernel_rfl) rfl #[.pointer (some ⟨g, 0, none⟩), .int .i64 5] rfl mq ?_; (with_reducible refine (spec_l1Rd_pick.calls k g s0_0 t281 5 t282 t283 w0 _ ?side1 ?side2 A4.out).mono ?_); (case side1 => repeat (first | (with_reducible first | exact HI0.out | apply IsS127.alloc | apply IsS127.drewN | apply IsS127.drew | apply IsS127.set_1) | exact HI0.out)); (case side2 => repeat (first | (with_reducible first | exact HB.out | apply below_alloc | apply pw_below_drewN | apply below_drew1 | refine below_set ?_ (IsS127.ge HI0.out)) | exact HB.out)); rintro e w6 ⟨rfl, hi, hb, hk⟩; refine ⟨_, rfl, ?_⟩; replace HK := am (KeepBut.trans b0_ hk (.inl rfl)); replace HB := am (hb); replace HI0 := am (hi); (try clear hb); (try clear hb2); (try clear hk); (try clear hi)))
  go_loopg [3, 4] k (fun kq v3 v4 w' => ∃ (x3_1 : ByteArray) (x4_1 : Int) (x1001_1 : Int), v3 = .string x3_1 ∧ v4 = .int .i64 x4_1 ∧ Aside0 (spec_l13Word.l0 kq x3_1 x4_1 s0_0 x1001_1 = some (r1, r2)) ∧ Aside0 (kq ≤ k) ∧ Aside0 (IsS127 w0 w' g s0_0 x1001_1) ∧ Aside0 (KeepBut w w' g none) ∧ Aside0 (Below w0.heap.size w0 w'))
  case atStart => exact ⟨((⟨#[]⟩ : ByteArray)), (wrap64 (1 + t282)), (t283), sq, sq, H', ⟨Nat.le_refl _⟩, ⟨b2_⟩, ⟨b0_⟩, ⟨b1_⟩⟩
  case round =>
   clear H'; (try clear c1); (try clear p2); (try clear c3); (try clear c3b0); (try clear c3b1); (try clear c6); (try clear p6); obtain ⟨x3_1, x4_1, x1001_1, rfl, rfl, HA, HK1, HI0, HK, HB⟩ := hrel
   cases gk with
   | zero => exact absurd HA.out (by simp [spec_l13Word.l0])
   | succ k1 =>
    have H := HA.out; clear HA
    simp only [spec_l13Word.l0] at H
    by_cases c7 : x4_1 > 0
    ·rw [if_pos c7] at H; have c7b0 := decide_eq_true c7; clear c7; obtain ⟨y284, hy284⟩ : ∃ y_ : List ByteArray, y_ = (([(⟨#[97]⟩ : ByteArray), (⟨#[98]⟩ : ByteArray), (⟨#[99]⟩ : ByteArray), (⟨#[97, 98]⟩ : ByteArray), (⟨#[116]⟩ : ByteArray)] : List ByteArray)) := ⟨_, rfl⟩
     replace H : ((spec_l1Rd_of.f k1 s0_0 x1001_1 y284).bind fun bt287 => (if x3_1.size + bt287.1.size ≤ 9223372036854775807 then (spec_l13Word.l0 k1 (x3_1 ++ bt287.1) (wrap64 (x4_1 - 1)) s0_0 bt287.2) else (none))) = some (r1, r2) := by first | (rw [hy284]; with_reducible exact H) | (have H2_ := bm H; rw [hy284]; with_reducible exact H2_) | (with_reducible exact bm H) | with_reducible exact H | (rw [hy284]; exact H) | exact H
     have Ny284 := am hy284; clear hy284; replace H := bs H; obtain ⟨⟨t287, t288⟩, A80, H⟩ := H; replace H : (if x3_1.size + t287.size ≤ 9223372036854775807 then (spec_l13Word.l0 k1 (x3_1 ++ t287) (wrap64 (x4_1 - 1)) s0_0 t288) else (none)) = some (r1, r2) := H; have A8 := Aside0.mk A80; clear A80
     replace H := ip H; obtain ⟨c9, H⟩ := H; have c9b0 := eq_true c9
     have c9b1 : decide (x3_1.size + t287.size ≤ 9223372036854775807) = true := decide_eq_true c9
     try have c9b2 : (9223372036854775807 < x3_1.size + t287.size) = False := eq_false (Nat.not_lt.2 c9)
     have H' := am H
     clear H
     go_wp2_with (first | ((with_reducible refine gate_dst (N := 17) rfl ?_); refine Kd.R_lit Kd.string _ 9 ?hg (N := 17) ?hd (xs := ([(⟨#[97]⟩ : ByteArray), (⟨#[98]⟩ : ByteArray), (⟨#[99]⟩ : ByteArray), (⟨#[97, 98]⟩ : ByteArray), (⟨#[116]⟩ : ByteArray)] : List ByteArray)) (inner := [.string (⟨#[97]⟩ : ByteArray), .string (⟨#[98]⟩ : ByteArray), .string (⟨#[99]⟩ : ByteArray), .string (⟨#[97, 98]⟩ : ByteArray), .string (⟨#[116]⟩ : ByteArray)]) (ok := fun _ => True) (okp := fun _ => True) ?hr ?hp (fun _ hk => hk) trivial (Below.refl _ _) (Nat.le_refl _) (by simp) ?_; (case hd => rfl); (case hg => rfl); (case hr => first | (go_simp; done) | (go_simp; rfl)); (case hp => exact (Reps.one (show Kd.M Kd.string _ _ _ (⟨#[97]⟩ : ByteArray) [.string (⟨#[97]⟩ : ByteArray)] from rfl) (Reps.one (show Kd.M Kd.string _ _ _ (⟨#[98]⟩ : ByteArray) [.string (⟨#[98]⟩ : ByteArray)] from rfl) (Reps.one (show Kd.M Kd.string _ _ _ (⟨#[99]⟩ : ByteArray) [.string (⟨#[99]⟩ : ByteArray)] from rfl) (Reps.one (show Kd.M Kd.string _ _ _ (⟨#[97, 98]⟩ : ByteArray) [.string (⟨#[97, 98]⟩ : ByteArray)] from rfl) (Reps.one (show Kd.M Kd.string _ _ _ (⟨#[116]⟩ : ByteArray) [.string (⟨#[116]⟩ : ByteArray)] from rfl) (Reps.none _ _))))))); intro v285 w10 ho11 hb hg_ hnew_; clear hg_ hnew_; (first | rw [← Ny284.out] at ho11 | (simp only [Int.reduceToNat] at ho11; rw [← Ny284.out] at ho11) | (simp only [Int.toNat_natCast] at ho11; rw [← Ny284.out] at ho11)); have HO286 := am (Kd.R_lower ho11 (keep_size (w := w) (g := g) (row := none) b0_)); replace HK := am (KeepBut.trans b0_ (KeepBut.of_below hb g none) (.inl rfl)); replace HB := am (below_step b1_ hb); replace HI0 := am (IsS127.below b2_ hb); clear hb ho11; obtain ⟨Ao12, co12, eo12⟩ := Kd.R_slice HO286.out; subst eo12) | ((with_reducible refine gate_callee (f := 110) rfl ?_); refine goesL_ (some 18) rfl rfl Try.func110 (by kernel_rfl) rfl #[.pointer (some ⟨g, 0, none⟩), .slice Ao12 y284.length co12] rfl mq ?_; (with_reducible refine (spec_l1Rd_of.calls k1 g s0_0 x1001_1 _ _ y284 t287 t288 w0 _ ?side1 ?side2 ?side3 ?side4 ?side5 A8.out).mono ?_); (case side1 => repeat (first | (with_reducible first | exact HI0.out | apply IsS127.alloc | apply IsS127.drewN | apply IsS127.drew | apply IsS127.set_1) | exact HI0.out)); (case side2 => repeat (first | (with_reducible first | exact HB.out | apply below_alloc | apply pw_below_drewN | apply below_drew1 | refine below_set ?_ (IsS127.ge HI0.out)) | exact HB.out)); (case side3 => exact cq (Kd.R_reads' HO286.out).2.2); (case side4 => exact (Kd.R_reads' HO286.out).2.1); (case side5 => exact far_slice (IsS127.own_ne HI0.out HO286.out (by decide))); rintro e w13 ⟨rfl, hi, hb, hk⟩; refine ⟨_, rfl, ?_⟩; replace HO286 := am (Kd.R_mono (Kd.R_keep (IsS127.apart (show IsS127 w0 _ g s0_0 x1001_1 from by repeat (first | (with_reducible first | exact HI0.out | apply IsS127.alloc | apply IsS127.drewN | apply IsS127.drew | apply IsS127.set_1) | exact HI0.out)) (rq HO286.out) (by decide)) hk (fun _ h => h.2)) (fun _ h => h.1)); replace HK := am (KeepBut.trans b0_ hk (.inl rfl)); replace HB := am (hb); replace HI0 := am (hi); (try clear hb); (try clear hb2); (try clear hk); (try clear hi)))
     go_roundg k1
     case measure => have := HK1.out; omega
     case rel => exact ⟨(x3_1 ++ t287), (wrap64 (x4_1 - 1)), (t288), sq, sq, H', ⟨b53_⟩, ⟨b2_⟩, ⟨b0_⟩, ⟨b1_⟩⟩
    rw [if_neg c7] at H; have c7b0 := decide_eq_false c7; clear c7; replace H := bs H; obtain ⟨t289, A140, H⟩ := H; replace H : (if 0 ≤ t289 then (if t289 ≤ (x3_1.size : Int) then (some (x3_1.extract 0 (t289 : Int).toNat, x1001_1)) else (none)) else (none)) = some (r1, r2) := H; have A14 := Aside0.mk A140; clear A140
    replace H := ip H; obtain ⟨c15, H⟩ := H; have c15b0 := eq_true c15
    have c15b1 : decide (0 ≤ t289) = true := decide_eq_true c15
    clear c15
    replace H := ip H; obtain ⟨c16, H⟩ := H; have c16b0 := eq_true c16
    have c16b1 : decide (t289 ≤ (x3_1.size : Int)) = true := decide_eq_true c16
    clear c16
    simp only [Option.some.injEq, Prod.mk.injEq] at H
    obtain ⟨rfl, rfl⟩ := H
    go_wp2_with (first | ((with_reducible refine gate_callee (f := 119) rfl ?_); refine goesL_ (some 23) rfl rfl Try.func119 (by kernel_rfl) rfl #[.int .i64 (x3_1.size : Int), .int .i64 12] rfl mq ?_; (with_reducible refine (spec_l1Least.calls (x3_1.size : Int) 12 t289 _ A14.out).mono ?_); rintro e w' ⟨rfl, ⟨nd, rfl⟩⟩; refine ⟨_, rfl, ?_⟩))
    go_ret
    exact ⟨eq_, b2_, b1_, b0_⟩
 rw [if_neg c3] at H
 have c3b0 : (t280 == 0) = false := beq_eq_false_iff_ne.mpr c3
 have c3b1 : (t280 != 0) = true := bne_iff_ne.mpr c3
 obtain ⟨y290, hy290⟩ : ∃ y_ : List ByteArray, y_ = (([(⟨#[99, 97, 116]⟩ : ByteArray), (⟨#[99, 97, 116, 115]⟩ : ByteArray), (⟨#[97, 99, 116]⟩ : ByteArray), (⟨#[100, 111]⟩ : ByteArray), (⟨#[100, 111, 105, 110, 103]⟩ : ByteArray), (⟨#[103, 111]⟩ : ByteArray), (⟨#[117, 110, 100, 111]⟩ : ByteArray), (⟨#[116, 114, 121]⟩ : ByteArray), (⟨#[116, 114, 105, 101, 115]⟩ : ByteArray), (⟨#[97]⟩ : ByteArray), (⟨#[98, 97, 107, 101]⟩ : ByteArray), (⟨#[98, 97, 107, 105, 110, 103]⟩ : ByteArray), (⟨#[116, 97, 99, 116]⟩ : ByteArray), (⟨#[99, 97, 114, 116]⟩ : ByteArray), (⟨#[97, 98, 99, 97, 98, 99, 97, 98, 99, 97, 98, 99]⟩ : ByteArray)] : List ByteArray)) := ⟨_, rfl⟩
 replace H : ((spec_l1Rd_of.f k s0_0 t281 y290).bind fun bt293 => (some (bt293.1, bt293.2))) = some (r1, r2) := by first | (rw [hy290]; with_reducible exact H) | (have H2_ := bm H; rw [hy290]; with_reducible exact H2_) | (with_reducible exact bm H) | with_reducible exact H | (rw [hy290]; exact H) | exact H
 have Ny290 := am hy290; clear hy290; replace H := bs H; obtain ⟨⟨t293, t294⟩, A170, H⟩ := H; replace H : (some (t293, t294)) = some (r1, r2) := H; have A17 := Aside0.mk A170; clear A170
 simp only [Option.some.injEq, Prod.mk.injEq] at H
 obtain ⟨rfl, rfl⟩ := H; go_enter Try.func111, Try.ntmps111
 go_wp2_with (first | ((with_reducible refine gate_callee (f := 67) rfl ?_); refine goesL_ (some 6) rfl rfl Try.func67 (by kernel_rfl) rfl #[.pointer (some ⟨g, 0, none⟩), .int .i64 3] rfl mq ?_; (with_reducible refine (spec_l1Rd_pick.calls k g s0_0 s0_1 3 t280 t281 w0 _ ?side1 ?side2 A2.out).mono ?_); (case side1 => repeat (first | (with_reducible first | exact HI0.out | apply IsS127.alloc | apply IsS127.drewN | apply IsS127.drew | apply IsS127.set_1) | exact HI0.out)); (case side2 => repeat (first | (with_reducible first | exact HB.out | apply below_alloc | apply pw_below_drewN | apply below_drew1 | refine below_set ?_ (IsS127.ge HI0.out)) | exact HB.out)); rintro e w18 ⟨rfl, hi, hb, hk⟩; refine ⟨_, rfl, ?_⟩; replace HK := am (KeepBut.trans b0_ hk (.inl rfl)); replace HB := am (hb); replace HI0 := am (hi); (try clear hb); (try clear hb2); (try clear hk); (try clear hi)) | ((with_reducible refine gate_dst (N := 26) rfl ?_); refine Kd.R_lit Kd.string _ 9 ?hg (N := 26) ?hd (xs := ([(⟨#[99, 97, 116]⟩ : ByteArray), (⟨#[99, 97, 116, 115]⟩ : ByteArray), (⟨#[97, 99, 116]⟩ : ByteArray), (⟨#[100, 111]⟩ : ByteArray), (⟨#[100, 111, 105, 110, 103]⟩ : ByteArray), (⟨#[103, 111]⟩ : ByteArray), (⟨#[117, 110, 100, 111]⟩ : ByteArray), (⟨#[116, 114, 121]⟩ : ByteArray), (⟨#[116, 114, 105, 101, 115]⟩ : ByteArray), (⟨#[97]⟩ : ByteArray), (⟨#[98, 97, 107, 101]⟩ : ByteArray), (⟨#[98, 97, 107, 105, 110, 103]⟩ : ByteArray), (⟨#[116, 97, 99, 116]⟩ : ByteArray), (⟨#[99, 97, 114, 116]⟩ : ByteArray), (⟨#[97, 98, 99, 97, 98, 99, 97, 98, 99, 97, 98, 99]⟩ : ByteArray)] : List ByteArray)) (inner := [.string (⟨#[99, 97, 116]⟩ : ByteArray), .string (⟨#[99, 97, 116, 115]⟩ : ByteArray), .string (⟨#[97, 99, 116]⟩ : ByteArray), .string (⟨#[100, 111]⟩ : ByteArray), .string (⟨#[100, 111, 105, 110, 103]⟩ : ByteArray), .string (⟨#[103, 111]⟩ : ByteArray), .string (⟨#[117, 110, 100, 111]⟩ : ByteArray), .string (⟨#[116, 114, 121]⟩ : ByteArray), .string (⟨#[116, 114, 105, 101, 115]⟩ : ByteArray), .string (⟨#[97]⟩ : ByteArray), .string (⟨#[98, 97, 107, 101]⟩ : ByteArray), .string (⟨#[98, 97, 107, 105, 110, 103]⟩ : ByteArray), .string (⟨#[116, 97, 99, 116]⟩ : ByteArray), .string (⟨#[99, 97, 114, 116]⟩ : ByteArray), .string (⟨#[97, 98, 99, 97, 98, 99, 97, 98, 99, 97, 98, 99]⟩ : ByteArray)]) (ok := fun _ => True) (okp := fun _ => True) ?hr ?hp (fun _ hk => hk) trivial (Below.refl _ _) (Nat.le_refl _) (by simp) ?_; (case hd => rfl); (case hg => rfl); (case hr => first | (go_simp; done) | (go_simp; rfl)); (case hp => exact (Reps.one (show Kd.M Kd.string _ _ _ (⟨#[99, 97, 116]⟩ : ByteArray) [.string (⟨#[99, 97, 116]⟩ : ByteArray)] from rfl) (Reps.one (show Kd.M Kd.string _ _ _ (⟨#[99, 97, 116, 115]⟩ : ByteArray) [.string (⟨#[99, 97, 116, 115]⟩ : ByteArray)] from rfl) (Reps.one (show Kd.M Kd.string _ _ _ (⟨#[97, 99, 116]⟩ : ByteArray) [.string (⟨#[97, 99, 116]⟩ : ByteArray)] from rfl) (Reps.one (show Kd.M Kd.string _ _ _ (⟨#[100, 111]⟩ : ByteArray) [.string (⟨#[100, 111]⟩ : ByteArray)] from rfl) (Reps.one (show Kd.M Kd.string _ _ _ (⟨#[100, 111, 105, 110, 103]⟩ : ByteArray) [.string (⟨#[100, 111, 105, 110, 103]⟩ : ByteArray)] from rfl) (Reps.one (show Kd.M Kd.string _ _ _ (⟨#[103, 111]⟩ : ByteArray) [.string (⟨#[103, 111]⟩ : ByteArray)] from rfl) (Reps.one (show Kd.M Kd.string _ _ _ (⟨#[117, 110, 100, 111]⟩ : ByteArray) [.string (⟨#[117, 110, 100, 111]⟩ : ByteArray)] from rfl) (Reps.one (show Kd.M Kd.string _ _ _ (⟨#[116, 114, 121]⟩ : ByteArray) [.string (⟨#[116, 114, 121]⟩ : ByteArray)] from rfl) (Reps.one (show Kd.M Kd.string _ _ _ (⟨#[116, 114, 105, 101, 115]⟩ : ByteArray) [.string (⟨#[116, 114, 105, 101, 115]⟩ : ByteArray)] from rfl) (Reps.one (show Kd.M Kd.string _ _ _ (⟨#[97]⟩ : ByteArray) [.string (⟨#[97]⟩ : ByteArray)] from rfl) (Reps.one (show Kd.M Kd.string _ _ _ (⟨#[98, 97, 107, 101]⟩ : ByteArray) [.string (⟨#[98, 97, 107, 101]⟩ : ByteArray)] from rfl) (Reps.one (show Kd.M Kd.string _ _ _ (⟨#[98, 97, 107, 105, 110, 103]⟩ : ByteArray) [.string (⟨#[98, 97, 107, 105, 110, 103]⟩ : ByteArray)] from rfl) (Reps.one (show Kd.M Kd.string _ _ _ (⟨#[116, 97, 99, 116]⟩ : ByteArray) [.string (⟨#[116, 97, 99, 116]⟩ : ByteArray)] from rfl) (Reps.one (show Kd.M Kd.string _ _ _ (⟨#[99, 97, 114, 116]⟩ : ByteArray) [.string (⟨#[99, 97, 114, 116]⟩ : ByteArray)] from rfl) (Reps.one (show Kd.M Kd.string _ _ _ (⟨#[97, 98, 99, 97, 98, 99, 97, 98, 99, 97, 98, 99]⟩ : ByteArray) [.string (⟨#[97, 98, 99, 97, 98, 99, 97, 98, 99, 97, 98, 99]⟩ : ByteArray)] from rfl) (Reps.none _ _))))))))))))))))); intro v291 w19 ho20 hb hg_ hnew_; clear hg_ hnew_; (first | rw [← Ny290.out] at ho20 | (simp only [Int.reduceToNat] at ho20; rw [← Ny290.out] at ho20) | (simp only [Int.toNat_natCast] at ho20; rw [← Ny290.out] at ho20)); have HO292 := am (Kd.R_lower ho20 (keep_size (w := w) (g := g) (row := none) b0_)); replace HK := am (KeepBut.trans b0_ (KeepBut.of_below hb g none) (.inl rfl)); replace HB := am (below_step b1_ hb); replace HI0 := am (IsS127.below b2_ hb); clear hb ho20; obtain ⟨Ao21, co21, eo21⟩ := Kd.R_slice HO292.out; subst eo21) | ((with_reducible refine gate_callee (f := 110) rfl ?_); refine goesL_ (some 27) rfl rfl Try.func110 (by kernel_rfl) rfl #[.pointer (some ⟨g, 0, none⟩), .slice Ao21 y290.length co21] rfl mq ?_; (with_reducible refine (spec_l1Rd_of.calls k g s0_0 t281 _ _ y290 t293 t294 w0 _ ?side1 ?side2 ?side3 ?side4 ?side5 A17.out).mono ?_); (case side1 => repeat (first | (with_reducible first | exact HI0.out | apply IsS127.alloc | apply IsS127.drewN | apply IsS127.drew | apply IsS127.set_1) | exact HI0.out)); (case side2 => repeat (first | (with_reducible first | exact HB.out | apply below_alloc | apply pw_below_drewN | apply below_drew1 | refine below_set ?_ (IsS127.ge HI0.out)) | exact HB.out)); (case side3 => exact cq (Kd.R_reads' HO292.out).2.2); (case side4 => exact (Kd.R_reads' HO292.out).2.1); (case side5 => exact far_slice (IsS127.own_ne HI0.out HO292.out (by decide))); rintro e w22 ⟨rfl, hi, hb, hk⟩; refine ⟨_, rfl, ?_⟩; replace HO292 := am (Kd.R_mono (Kd.R_keep (IsS127.apart (show IsS127 w0 _ g s0_0 t281 from by repeat (first | (with_reducible first | exact HI0.out | apply IsS127.alloc | apply IsS127.drewN | apply IsS127.drew | apply IsS127.set_1) | exact HI0.out)) (rq HO292.out) (by decide)) hk (fun _ h => h.2)) (fun _ h => h.1)); replace HK := am (KeepBut.trans b0_ hk (.inl rfl)); replace HB := am (hb); replace HI0 := am (hi); (try clear hb); (try clear hb2); (try clear hk); (try clear hi)))
 go_ret
 exact ⟨eq_, b2_, b1_, b0_⟩
end Go.Proofs.Ytfpmfaelodfecaa.QFnGuesses
