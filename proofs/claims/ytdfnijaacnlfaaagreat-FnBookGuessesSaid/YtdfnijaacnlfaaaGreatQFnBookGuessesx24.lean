import Derived.Test.YtdfnijaacnlfaaaGreatQFnBookGuessesx0
import Derived.Test.YtdfnijaacnlfaaaGreatQFnBookGuessesx23
import Derived.Test.YtdfnijaacnlfaaaGreatVMSh2
import Derived.Test.YtdfnijaacnlfaaaGreatQFnBookGuessesx15
import Derived.Test.YtdfnijaacnlfaaaGreatQFnBookGuessesx20
namespace Go.Proofs.YtdfnijaacnlfaaaGreat.QFnBookGuesses
open Go.RowKit Go.Proofs.YtdfnijaacnlfaaaGreatW.PrintWords Go.Proofs.YtdfnijaacnlfaaaGreatW.PrintLast Go.Proofs.YtdfnijaacnlfaaaGreatW.PrintMore Go.Proofs.YtdfnijaacnlfaaaGreat.Sh
attribute [local go_sem] max2_int min2_int max_two min_two max_three min_three max_four min_four
set_option linter.unusedVariables false
set_option linter.unusedSimpArgs false
set_option maxHeartbeats 8000000
set_option maxRecDepth 100000
-- shrunk

/-! ### impl_Within: function 38 -/
def impl_Within.f (k : Nat) (a0 : ByteArray) (a1 : ByteArray) (a2 : Int) : Option (Bool) := (impl_Far.f k a0 a1).bind fun t560 => (if t560 ≥ 0 then (some (decide (t560 ≤ a2))) else (some false))
theorem impl_Within.calls (k : Nat) (a0 : ByteArray) (a1 : ByteArray) (a2 : Int) (r : Bool) (w : World) (h : impl_Within.f k a0 a1 a2 = some r) :
  Calls Tryz.prog 38 #[.string a0, .string a1, .int .i64 a2] w fun e w' => e = .returned (.bool r) ∧ Below w.heap.size w w' := by
 have HB := am (Below.refl w.heap.size w)
 have H := h; unfold impl_Within.f at H
 clear h; replace H := bs H; obtain ⟨t560, A40, H⟩ := H; have A4 := Aside0.mk A40; clear A40
 by_cases c5 : t560 ≥ 0
 ·rw [if_pos c5] at H; have c5b0 := decide_eq_true c5; clear c5; obtain rfl := Option.some.inj H; go_enter Tryz.func38, Tryz.ntmps38
  go_wp2_with ((with_reducible refine gate_callee (f := 11) rfl ?_); refine gl 10 Tryz.func11 #[.string a0, .string a1] ?_; (with_reducible refine (impl_Far.calls k a0 a1 t560 _ A4.out).mono ?_); rintro e w6 ⟨rfl, hb⟩; refine ⟨_, rfl, ?_⟩; replace HB := am (below_step bel hb); clear hb)
  go_ret
  exact ⟨eq_, bel⟩
 rw [if_neg c5] at H; have c5b0 := decide_eq_false c5; clear c5; obtain rfl := Option.some.inj H; go_enter Tryz.func38, Tryz.ntmps38
 go_wp2_with ((with_reducible refine gate_callee (f := 11) rfl ?_); refine gl 10 Tryz.func11 #[.string a0, .string a1] ?_; (with_reducible refine (impl_Far.calls k a0 a1 t560 _ A4.out).mono ?_); rintro e w7 ⟨rfl, hb⟩; refine ⟨_, rfl, ?_⟩; replace HB := am (below_step bel hb); clear hb)
 go_ret
 exact ⟨eq_, bel⟩

/-! ### cmp_Or_int: function 61 -/
def cmp_Or_int.l0 : Nat → Int → List Int → Int → Int → Option (Int)
 | 0, _, _, _, _ => none
 | k + 1, x3, x6, x7, x8 => if x8 < x7 then (if 0 ≤ x8 then (if x8 < (x6.length : Int) then (if (rd x6 x8) = x3 then (cmp_Or_int.l0 k x3 x6 x7 (wrap64 (x8 + 1))) else (some (rd x6 x8))) else (none)) else (none)) else (some x3)
def cmp_Or_int.f (k : Nat) (l0 : List Int) : Option (Int) := cmp_Or_int.l0 k 0 l0 (l0.length : Int) 0
theorem cmp_Or_int.calls (k : Nat) (A0 : Option Addr) (c0 : Nat) (l0 : List Int) (r : Int) (w : World) (hr0 : Kd.C (Kd.int .i64) w A0 l0.length l0) (hc0 : l0.length ≤ c0) (h : cmp_Or_int.f k l0 = some r) :
  Calls Tryz.prog 61 #[.slice A0 l0.length c0] w fun e w' => e = .returned (.int .i64 r) ∧ Drawn0 w w' := by
 have HR0 := am hr0; have HC0 := am hc0; clear hr0 hc0
 have H := h; unfold cmp_Or_int.f at H
 clear h
 have H' := am H
 clear H; go_enter Tryz.func61, Tryz.ntmps61; go_wp2
 go_loopg [8] k (fun kq v8 w' => ∃ (x8_1 : Int), v8 = .int .i64 x8_1 ∧ Aside0 (cmp_Or_int.l0 kq 0 l0 (l0.length : Int) x8_1 = some r) ∧ Aside0 (kq ≤ k) ∧ Drawn0 w w')
 case atStart => exact ⟨(0), sq, H', ⟨Nat.le_refl _⟩, dr⟩
 case round =>
  clear H'; obtain ⟨x8_1, rfl, HA, HK1, ⟨m1, rfl⟩⟩ := hrel
  cases gk with
  | zero => exact absurd HA.out (by simp [cmp_Or_int.l0])
  | succ k1 =>
   have H := HA.out; clear HA; simp only [cmp_Or_int.l0] at H
   by_cases c2 : x8_1 < (l0.length : Int)
   ·rw [if_pos c2] at H; have c2b0 := decide_eq_true c2; clear c2
    replace H := it H; obtain ⟨c3b0, H⟩ := H; replace H := it H; obtain ⟨c4b0, H⟩ := H
    by_cases c5 : (rd l0 x8_1) = 0
    ·rw [if_pos c5] at H
     have c5b0 : ((rd l0 x8_1) == 0) = true := beq_iff_eq.mpr c5
     have c5b1 : ((rd l0 x8_1) != 0) = false := bne_eq_false_iff_eq.mpr c5
     clear c5
     have H' := am H
     clear H
     have p561 : 0 ≤ (x8_1 : Int) := of_decide_eq_true ad
     have q561 : x8_1 < (l0.length : Int) := of_decide_eq_true ad
     obtain ⟨ad561, e561, hx561_0⟩ := Kd.at_int HR0.out x8_1 p561 q561; cases e561
     replace p561 := eq_true p561; replace q561 := eq_true q561; go_wp2
     go_roundg k1
     case measure => have := HK1.out; omega
     case rel => exact ⟨(wrap64 (x8_1 + 1)), sq, H', ⟨b81_⟩, dr⟩
    rw [if_neg c5] at H
    have c5b0 : ((rd l0 x8_1) == 0) = false := beq_eq_false_iff_ne.mpr c5
    have c5b1 : ((rd l0 x8_1) != 0) = true := bne_iff_ne.mpr c5
    obtain rfl := Option.some.inj H
    have p561 : 0 ≤ (x8_1 : Int) := of_decide_eq_true ad
    have q561 : x8_1 < (l0.length : Int) := of_decide_eq_true ad
    obtain ⟨ad561, e561, hx561_0⟩ := Kd.at_int HR0.out x8_1 p561 q561; cases e561
    replace p561 := eq_true p561; replace q561 := eq_true q561; go_wp2; go_ret
    exact ⟨sq, dr⟩
   rw [if_neg c2] at H; have c2b0 := decide_eq_false c2; clear c2; obtain rfl := Option.some.inj H; go_wp2; go_ret
   exact ⟨sq, dr⟩

/-! ### cmp_isNaN_int: function 86 -/
def cmp_isNaN_int.f (a0 : Int) : Option (Bool) := some (a0 != a0)
theorem cmp_isNaN_int.calls (a0 : Int) (r : Bool) (w : World) (h : cmp_isNaN_int.f a0 = some r) :
  Calls Tryz.prog 86 #[.int .i64 a0] w fun e w' => e = .returned (.bool r) ∧ Drawn0 w w' := by
 have H := h; unfold cmp_isNaN_int.f at H
 clear h; obtain rfl := Option.some.inj H; go_enter Tryz.func86, Tryz.ntmps86; go_wp2; go_ret
 exact ⟨sq, dr⟩

/-! ### cmp_Compare_int: function 62 -/
def cmp_Compare_int.f (a0 : Int) (a1 : Int) : Option (Int) := (cmp_isNaN_int.f a0).bind fun t562 => ((cmp_isNaN_int.f a1).bind fun t563 => (if t562 = true then (if t563 = true then (some 0) else (some (-1))) else (if t563 = true then (some 1) else (if a0 < a1 then (some (-1)) else (if a0 > a1 then (some 1) else (some 0))))))
theorem cmp_Compare_int.calls (a0 : Int) (a1 : Int) (r : Int) (w : World) (h : cmp_Compare_int.f a0 a1 = some r) :
  Calls Tryz.prog 62 #[.int .i64 a0, .int .i64 a1] w fun e w' => e = .returned (.int .i64 r) ∧ Drawn0 w w' := by
 have H := h; unfold cmp_Compare_int.f at H
 clear h; replace H := bs H; obtain ⟨t562, A30, H⟩ := H; have A3 := Aside0.mk A30; clear A30; replace H := bs H; obtain ⟨t563, A40, H⟩ := H; have A4 := Aside0.mk A40; clear A40
 by_cases c5 : t562 = true
 ·subst c5
  have H1 : (if t563 = true then (some 0) else (some (-1))) = some r := b26_
  replace H := H1; clear H1
  by_cases c6 : t563 = true
  ·subst c6
   have H1 : (some 0) = some r := b26_
   replace H := H1; clear H1
   obtain rfl := Option.some.inj H; go_enter Tryz.func62, Tryz.ntmps62
   go_wp2_with (first | ((with_reducible refine gate_callee (f := 86) rfl ?_); refine gl 8 Tryz.func86 #[.int .i64 a0] ?_; (with_reducible refine (cmp_isNaN_int.calls a0 true _ A3.out).mono ?_); rintro e w' ⟨rfl, ⟨nd, rfl⟩⟩; refine ⟨_, rfl, ?_⟩) | ((with_reducible refine gate_callee (f := 86) rfl ?_); refine gl 10 Tryz.func86 #[.int .i64 a1] ?_; (with_reducible refine (cmp_isNaN_int.calls a1 true _ A4.out).mono ?_); rintro e w' ⟨rfl, ⟨nd, rfl⟩⟩; refine ⟨_, rfl, ?_⟩))
   go_ret
   exact ⟨sq, dr⟩
  replace c6 := Bool.eq_false_iff.mpr c6; subst c6
  have H1 : (some (-1)) = some r := b10_
  replace H := H1; clear H1
  obtain rfl := Option.some.inj H; go_enter Tryz.func62, Tryz.ntmps62
  go_wp2_with (first | ((with_reducible refine gate_callee (f := 86) rfl ?_); refine gl 8 Tryz.func86 #[.int .i64 a0] ?_; (with_reducible refine (cmp_isNaN_int.calls a0 true _ A3.out).mono ?_); rintro e w' ⟨rfl, ⟨nd, rfl⟩⟩; refine ⟨_, rfl, ?_⟩) | ((with_reducible refine gate_callee (f := 86) rfl ?_); refine gl 10 Tryz.func86 #[.int .i64 a1] ?_; (with_reducible refine (cmp_isNaN_int.calls a1 false _ A4.out).mono ?_); rintro e w' ⟨rfl, ⟨nd, rfl⟩⟩; refine ⟨_, rfl, ?_⟩))
  go_ret
  exact ⟨sq, dr⟩
 replace c5 := Bool.eq_false_iff.mpr c5; subst c5
 have H1 : (if t563 = true then (some 1) else (if a0 < a1 then (some (-1)) else (if a0 > a1 then (some 1) else (some 0)))) = some r := b10_
 replace H := H1; clear H1
 by_cases c7 : t563 = true
 ·subst c7
  have H1 : (some 1) = some r := b26_
  replace H := H1; clear H1
  obtain rfl := Option.some.inj H; go_enter Tryz.func62, Tryz.ntmps62
  go_wp2_with (first | ((with_reducible refine gate_callee (f := 86) rfl ?_); refine gl 8 Tryz.func86 #[.int .i64 a0] ?_; (with_reducible refine (cmp_isNaN_int.calls a0 false _ A3.out).mono ?_); rintro e w' ⟨rfl, ⟨nd, rfl⟩⟩; refine ⟨_, rfl, ?_⟩) | ((with_reducible refine gate_callee (f := 86) rfl ?_); refine gl 10 Tryz.func86 #[.int .i64 a1] ?_; (with_reducible refine (cmp_isNaN_int.calls a1 true _ A4.out).mono ?_); rintro e w' ⟨rfl, ⟨nd, rfl⟩⟩; refine ⟨_, rfl, ?_⟩))
  go_ret
  exact ⟨sq, dr⟩
 replace c7 := Bool.eq_false_iff.mpr c7; subst c7
 have H1 : (if a0 < a1 then (some (-1)) else (if a0 > a1 then (some 1) else (some 0))) = some r := b10_
 replace H := H1; clear H1
 by_cases c8 : a0 < a1
 ·rw [if_pos c8] at H; have c8b0 := decide_eq_true c8; clear c8; obtain rfl := Option.some.inj H; go_enter Tryz.func62, Tryz.ntmps62
  go_wp2_with (first | ((with_reducible refine gate_callee (f := 86) rfl ?_); refine gl 8 Tryz.func86 #[.int .i64 a0] ?_; (with_reducible refine (cmp_isNaN_int.calls a0 false _ A3.out).mono ?_); rintro e w' ⟨rfl, ⟨nd, rfl⟩⟩; refine ⟨_, rfl, ?_⟩) | ((with_reducible refine gate_callee (f := 86) rfl ?_); refine gl 10 Tryz.func86 #[.int .i64 a1] ?_; (with_reducible refine (cmp_isNaN_int.calls a1 false _ A4.out).mono ?_); rintro e w' ⟨rfl, ⟨nd, rfl⟩⟩; refine ⟨_, rfl, ?_⟩))
  go_ret
  exact ⟨sq, dr⟩
 rw [if_neg c8] at H; have c8b0 := decide_eq_false c8; clear c8
 by_cases c9 : a0 > a1
 ·rw [if_pos c9] at H; have c9b0 := decide_eq_true c9; clear c9; obtain rfl := Option.some.inj H; go_enter Tryz.func62, Tryz.ntmps62
  go_wp2_with (first | ((with_reducible refine gate_callee (f := 86) rfl ?_); refine gl 8 Tryz.func86 #[.int .i64 a0] ?_; (with_reducible refine (cmp_isNaN_int.calls a0 false _ A3.out).mono ?_); rintro e w' ⟨rfl, ⟨nd, rfl⟩⟩; refine ⟨_, rfl, ?_⟩) | ((with_reducible refine gate_callee (f := 86) rfl ?_); refine gl 10 Tryz.func86 #[.int .i64 a1] ?_; (with_reducible refine (cmp_isNaN_int.calls a1 false _ A4.out).mono ?_); rintro e w' ⟨rfl, ⟨nd, rfl⟩⟩; refine ⟨_, rfl, ?_⟩))
  go_ret
  exact ⟨sq, dr⟩
 rw [if_neg c9] at H; have c9b0 := decide_eq_false c9; clear c9; obtain rfl := Option.some.inj H; go_enter Tryz.func62, Tryz.ntmps62
 go_wp2_with (first | ((with_reducible refine gate_callee (f := 86) rfl ?_); refine gl 8 Tryz.func86 #[.int .i64 a0] ?_; (with_reducible refine (cmp_isNaN_int.calls a0 false _ A3.out).mono ?_); rintro e w' ⟨rfl, ⟨nd, rfl⟩⟩; refine ⟨_, rfl, ?_⟩) | ((with_reducible refine gate_callee (f := 86) rfl ?_); refine gl 10 Tryz.func86 #[.int .i64 a1] ?_; (with_reducible refine (cmp_isNaN_int.calls a1 false _ A4.out).mono ?_); rintro e w' ⟨rfl, ⟨nd, rfl⟩⟩; refine ⟨_, rfl, ?_⟩))
 go_ret
 exact ⟨sq, dr⟩

/-! ### cmp_isNaN_string: function 87 -/
def cmp_isNaN_string.f (a0 : ByteArray) : Option (Bool) := some (a0.toList != a0.toList)
theorem cmp_isNaN_string.calls (a0 : ByteArray) (r : Bool) (w : World) (h : cmp_isNaN_string.f a0 = some r) :
  Calls Tryz.prog 87 #[.string a0] w fun e w' => e = .returned (.bool r) ∧ Drawn0 w w' := by
 have H := h; unfold cmp_isNaN_string.f at H
 clear h; obtain rfl := Option.some.inj H; go_enter Tryz.func87, Tryz.ntmps87; go_wp2; go_ret
 exact ⟨sq, dr⟩

/-! ### cmp_Compare_string: function 63 -/
def cmp_Compare_string.f (a0 : ByteArray) (a1 : ByteArray) : Option (Int) := (cmp_isNaN_string.f a0).bind fun t564 => ((cmp_isNaN_string.f a1).bind fun t565 => (if t564 = true then (if t565 = true then (some 0) else (some (-1))) else (if t565 = true then (some 1) else (if (Op.bytesLess a0.toList a1.toList) = true then (some (-1)) else (if (Op.bytesLess a1.toList a0.toList) = true then (some 1) else (some 0))))))
theorem cmp_Compare_string.ne : ∀ {a b : List UInt8}, Op.bytesLess b a = true → (a == b) = false
 | [], [], h => by simp [Op.bytesLess] at h
 | [], _ :: _, h => by rfl
 | _ :: _, [], h => by rfl
 | x :: a, y :: b, h => by
  rw [List.cons_beq_cons]
  by_cases e : x = y
  ·subst e
   have h' : Op.bytesLess b a = true := by simpa [Op.bytesLess] using h
   rw [cmp_Compare_string.ne h', Bool.and_false]
  ·simp [e]
theorem cmp_Compare_string.eq : ∀ {a b : List UInt8}, Op.bytesLess a b = false → Op.bytesLess b a = false → (a == b) = true
 | [], [], _, _ => rfl
 | [], _ :: _, h, _ => by simp [Op.bytesLess] at h
 | _ :: _, [], _, h => by simp [Op.bytesLess] at h
 | x :: a, y :: b, h, h2 => by
  have e : x = y := by
   by_cases c : x < y
   ·simp [Op.bytesLess, c] at h
   ·by_cases c2 : y < x
    ·simp [Op.bytesLess, c2] at h2
    exact UInt8.le_antisymm (UInt8.not_lt.1 c2) (UInt8.not_lt.1 c)
  subst e
  rw [List.cons_beq_cons, cmp_Compare_string.eq (a := a) (b := b) (by simpa [Op.bytesLess] using h) (by simpa [Op.bytesLess] using h2)]
  simp
theorem cmp_Compare_string.calls (a0 : ByteArray) (a1 : ByteArray) (r : Int) (w : World) (h : cmp_Compare_string.f a0 a1 = some r) :
  Calls Tryz.prog 63 #[.string a0, .string a1] w fun e w' => e = .returned (.int .i64 r) ∧ Drawn0 w w' := by
 have H := h; unfold cmp_Compare_string.f at H
 clear h; replace H := bs H; obtain ⟨t564, A30, H⟩ := H; have A3 := Aside0.mk A30; clear A30; replace H := bs H; obtain ⟨t565, A40, H⟩ := H; have A4 := Aside0.mk A40; clear A40
 by_cases c5 : t564 = true
 ·subst c5
  have H1 : (if t565 = true then (some 0) else (some (-1))) = some r := b26_
  replace H := H1; clear H1
  by_cases c6 : t565 = true
  ·subst c6
   have H1 : (some 0) = some r := b26_
   replace H := H1; clear H1
   obtain rfl := Option.some.inj H; go_enter Tryz.func63, Tryz.ntmps63
   go_wp2_with (first | ((with_reducible refine gate_callee (f := 87) rfl ?_); refine gl 8 Tryz.func87 #[.string a0] ?_; (with_reducible refine (cmp_isNaN_string.calls a0 true _ A3.out).mono ?_); rintro e w' ⟨rfl, ⟨nd, rfl⟩⟩; refine ⟨_, rfl, ?_⟩) | ((with_reducible refine gate_callee (f := 87) rfl ?_); refine gl 10 Tryz.func87 #[.string a1] ?_; (with_reducible refine (cmp_isNaN_string.calls a1 true _ A4.out).mono ?_); rintro e w' ⟨rfl, ⟨nd, rfl⟩⟩; refine ⟨_, rfl, ?_⟩))
   go_ret
   exact ⟨sq, dr⟩
  replace c6 := Bool.eq_false_iff.mpr c6; subst c6
  have H1 : (some (-1)) = some r := b10_
  replace H := H1; clear H1
  obtain rfl := Option.some.inj H; go_enter Tryz.func63, Tryz.ntmps63
  go_wp2_with (first | ((with_reducible refine gate_callee (f := 87) rfl ?_); refine gl 8 Tryz.func87 #[.string a0] ?_; (with_reducible refine (cmp_isNaN_string.calls a0 true _ A3.out).mono ?_); rintro e w' ⟨rfl, ⟨nd, rfl⟩⟩; refine ⟨_, rfl, ?_⟩) | ((with_reducible refine gate_callee (f := 87) rfl ?_); refine gl 10 Tryz.func87 #[.string a1] ?_; (with_reducible refine (cmp_isNaN_string.calls a1 false _ A4.out).mono ?_); rintro e w' ⟨rfl, ⟨nd, rfl⟩⟩; refine ⟨_, rfl, ?_⟩))
  go_ret
  exact ⟨sq, dr⟩
 replace c5 := Bool.eq_false_iff.mpr c5; subst c5
 have H1 : (if t565 = true then (some 1) else (if (Op.bytesLess a0.toList a1.toList) = true then (some (-1)) else (if (Op.bytesLess a1.toList a0.toList) = true then (some 1) else (some 0)))) = some r := b10_
 replace H := H1; clear H1
 by_cases c7 : t565 = true
 ·subst c7
  have H1 : (some 1) = some r := b26_
  replace H := H1; clear H1
  obtain rfl := Option.some.inj H; go_enter Tryz.func63, Tryz.ntmps63
  go_wp2_with (first | ((with_reducible refine gate_callee (f := 87) rfl ?_); refine gl 8 Tryz.func87 #[.string a0] ?_; (with_reducible refine (cmp_isNaN_string.calls a0 false _ A3.out).mono ?_); rintro e w' ⟨rfl, ⟨nd, rfl⟩⟩; refine ⟨_, rfl, ?_⟩) | ((with_reducible refine gate_callee (f := 87) rfl ?_); refine gl 10 Tryz.func87 #[.string a1] ?_; (with_reducible refine (cmp_isNaN_string.calls a1 true _ A4.out).mono ?_); rintro e w' ⟨rfl, ⟨nd, rfl⟩⟩; refine ⟨_, rfl, ?_⟩))
  go_ret
  exact ⟨sq, dr⟩
 replace c7 := Bool.eq_false_iff.mpr c7; subst c7
 have H1 : (if (Op.bytesLess a0.toList a1.toList) = true then (some (-1)) else (if (Op.bytesLess a1.toList a0.toList) = true then (some 1) else (some 0))) = some r := b10_
 replace H := H1; clear H1
 by_cases c8 : (Op.bytesLess a0.toList a1.toList) = true
 ·rw [if_pos c8] at H
  have c8b0 : (Op.bytesLess a0.toList a1.toList) = true := c8
  clear c8; obtain rfl := Option.some.inj H; go_enter Tryz.func63, Tryz.ntmps63
  go_wp2_with (first | ((with_reducible refine gate_callee (f := 87) rfl ?_); refine gl 8 Tryz.func87 #[.string a0] ?_; (with_reducible refine (cmp_isNaN_string.calls a0 false _ A3.out).mono ?_); rintro e w' ⟨rfl, ⟨nd, rfl⟩⟩; refine ⟨_, rfl, ?_⟩) | ((with_reducible refine gate_callee (f := 87) rfl ?_); refine gl 10 Tryz.func87 #[.string a1] ?_; (with_reducible refine (cmp_isNaN_string.calls a1 false _ A4.out).mono ?_); rintro e w' ⟨rfl, ⟨nd, rfl⟩⟩; refine ⟨_, rfl, ?_⟩))
  go_ret
  exact ⟨sq, dr⟩
 rw [if_neg c8] at H
 have c8b0 : (Op.bytesLess a0.toList a1.toList) = false := by simpa using c8
 clear c8
 by_cases c9 : (Op.bytesLess a1.toList a0.toList) = true
 ·rw [if_pos c9] at H
  have c9b0 : (Op.bytesLess a1.toList a0.toList) = true := c9
  clear c9
  have c9e0 : (a0.toList == a1.toList) = false := cmp_Compare_string.ne c9b0
  obtain rfl := Option.some.inj H; go_enter Tryz.func63, Tryz.ntmps63
  go_wp2_with (first | ((with_reducible refine gate_callee (f := 87) rfl ?_); refine gl 8 Tryz.func87 #[.string a0] ?_; (with_reducible refine (cmp_isNaN_string.calls a0 false _ A3.out).mono ?_); rintro e w' ⟨rfl, ⟨nd, rfl⟩⟩; refine ⟨_, rfl, ?_⟩) | ((with_reducible refine gate_callee (f := 87) rfl ?_); refine gl 10 Tryz.func87 #[.string a1] ?_; (with_reducible refine (cmp_isNaN_string.calls a1 false _ A4.out).mono ?_); rintro e w' ⟨rfl, ⟨nd, rfl⟩⟩; refine ⟨_, rfl, ?_⟩))
  go_ret
  exact ⟨sq, dr⟩
 rw [if_neg c9] at H
 have c9b0 : (Op.bytesLess a1.toList a0.toList) = false := by simpa using c9
 clear c9
 have c9e0 : (a0.toList == a1.toList) = true := cmp_Compare_string.eq c8b0 c9b0
 obtain rfl := Option.some.inj H; go_enter Tryz.func63, Tryz.ntmps63
 go_wp2_with (first | ((with_reducible refine gate_callee (f := 87) rfl ?_); refine gl 8 Tryz.func87 #[.string a0] ?_; (with_reducible refine (cmp_isNaN_string.calls a0 false _ A3.out).mono ?_); rintro e w' ⟨rfl, ⟨nd, rfl⟩⟩; refine ⟨_, rfl, ?_⟩) | ((with_reducible refine gate_callee (f := 87) rfl ?_); refine gl 10 Tryz.func87 #[.string a1] ?_; (with_reducible refine (cmp_isNaN_string.calls a1 false _ A4.out).mono ?_); rintro e w' ⟨rfl, ⟨nd, rfl⟩⟩; refine ⟨_, rfl, ?_⟩))
 go_ret
 exact ⟨sq, dr⟩

/-! ### impl_guessOrder: function 40 -/
/-- What is behind: draws and new blocks alone. -/
def impl_guessOrder.Gr (w W : World) : Prop := ∃ q os', W = Go.Sort.grow (w.drewN q) os'
theorem impl_guessOrder.Gr.refl (w : World) : impl_guessOrder.Gr w w := ⟨0, #[], by rw [Go.Sort.grow_empty]; rfl⟩
theorem impl_guessOrder.Gr.drewN {w W : World} (h : impl_guessOrder.Gr w W) (n : Nat) : impl_guessOrder.Gr w (W.drewN n) := by
 obtain ⟨q, os, rfl⟩ := h
 exact ⟨q + n, os, by rw [← World.drewN_drewN]; rfl⟩
theorem impl_guessOrder.Gr.drew {w W : World} (h : impl_guessOrder.Gr w W) : impl_guessOrder.Gr w W.drew := h.drewN 1
theorem impl_guessOrder.Gr.alloc {w W : World} (h : impl_guessOrder.Gr w W) (o : Obj) : impl_guessOrder.Gr w (W.alloc o) := by
 obtain ⟨q, os, rfl⟩ := h
 exact ⟨q, os ++ #[o], by rw [Go.Sort.alloc_eq_grow, Go.Sort.grow_grow]⟩
section
variable {P : Program} {ops : Array Oper} {rest : List Oper} {o : Oper} {a : Act} {Q : Exit → Act → World → Prop} {Kc : Act → World → Prop}
theorem impl_guessOrder.box {w W : World} (HG : impl_guessOrder.Gr w W) (hgd : o.guard = none) {N : Tmp} (_hd : o.dst = some N) {cs : Array Value} {t : TypeId}
  (hrun : (execOp a.eval o).run P W = .ok (.value (.pointer (some ⟨W.heap.size, 0, none⟩))) (W.alloc (.cells cs t (0, 0))))
  (h : ∀ g, g = W.heap.size → ∀ w1, w1.heap[g]? = some (.cells cs t (0, 0)) → Below W.heap.size W w1 → impl_guessOrder.Gr w w1 → wpList P ops Q rest (a.put o.dst (.pointer (some ⟨g, 0, none⟩))) w1) : wpList P ops Q (o :: rest) a W :=
 Kd.event_run hgd hrun (h _ rfl _ (blk_new W _) (below_alloc (Below.refl _ _) _) (HG.alloc _))
theorem impl_guessOrder.lit {α : Type} {w W : World} (HG : impl_guessOrder.Gr w W) (d : Kd α) {w0 : World} (base e : Nat) (hw : Region.wanted o (yielded ops a.tmps) = true) {N : Tmp} (hd : o.dst = some N) {xs : List α} {inner : List Value} {ok okp : Nat → Prop}
  (hrun : (execOp a.eval o).run P W = .ok (.value (.slice (some ⟨W.heap.size, 0, none⟩) xs.length xs.length)) (W.alloc (.cells inner.toArray e)))
  (hrep : Reps (d.M W base okp) d.sz xs inner) (hok : ∀ k, okp k → ok k) (hfresh : ok W.heap.size) (HB : Below base w0 W) (hbase : base ≤ W.heap.size) (hm : xs.length ≤ 9223372036854775807)
  (h : ∀ v1 w1, d.R e w1 base ok v1 xs → Below base w0 w1 → W.grownBy w1 none → (∃ b, v1.ownBlock = some b ∧ W.heap.size ≤ b) → impl_guessOrder.Gr w w1 → Kc (a.put o.dst v1) w1) : if Region.wanted o (yielded ops a.tmps) = true then Oper.wp P o a W Kc Q else Kc (a.put o.dst undef) W := by
 have h0 := Kd.R_lit_step (P := P) (Q := Q) (Kc := fun a' w' => ∃ v1, a' = a.put o.dst v1 ∧ d.R e w' base ok v1 xs ∧ Below base w0 w' ∧ W.grownBy w' none ∧ (∃ b, v1.ownBlock = some b ∧ W.heap.size ≤ b)) d base e hw hd hrun hrep hok hfresh HB hbase hm (fun v1 w1 z1 z2 z3 z4 => ⟨v1, rfl, z1, z2, z3, z4⟩)
 rw [if_pos hw] at h0 ⊢
 unfold Oper.wp at h0 ⊢
 rw [hrun] at h0 ⊢
 obtain ⟨v1, e1, z1, z2, z3, z4⟩ := h0
 show Kc _ _
 rw [e1]
 exact h v1 _ z1 z2 z3 z4 (HG.alloc _)
end
def impl_guessOrder.f (k : Nat) (a0_0 : ByteArray) (a0_1 : Int) (a1_0 : ByteArray) (a1_1 : Int) : Option (Int) := (cmp_Compare_int.f a0_1 a1_1).bind fun t248 => ((cmp_Compare_string.f a0_0 a1_0).bind fun t249 => ((cmp_Or_int.f k (([t248, t249] : List Int))).bind fun t253 => (some t253)))
def impl_guessOrder.T1 : Bool × List (List Nat × List Nat) := (true, [([], []), ([0], [0]), ([], []), ([2], [2]), ([1, 3], [1, 3]), ([], []), ([5], [5]), ([], []), ([7], [7]), ([6, 8, 4], [6, 8]), ([4, 9], [4, 9]), ([10, 9], [10]), ([11, 11, 0, 1, 2, 3, 4, 5, 6, 7, 8, 9, 10, 11], [11])])
def impl_guessOrder.B1 : List Nat := [0, 1, 0, 4, 15, 0, 32, 0, 128, 511, 1023, 2047, 4095]
theorem impl_guessOrder.tab1 : rtab .any (opsOf Tryz.f40 1) = impl_guessOrder.T1 := by kernel_rfl
theorem impl_guessOrder.bits1 : waitsOk impl_guessOrder.T1.2 impl_guessOrder.B1 = true := by kernel_rfl
theorem impl_guessOrder.calls (k : Nat) (a0_0 : ByteArray) (a0_1 : Int) (a1_0 : ByteArray) (a1_1 : Int) (r : Int) (w : World) (h : impl_guessOrder.f k a0_0 a0_1 a1_0 a1_1 = some r) :
  Calls Tryz.prog 40 #[.agg #[.string a0_0, .int .i64 a0_1], .agg #[.string a1_0, .int .i64 a1_1]] w fun e w' => e = .returned (.int .i64 r) ∧ ∃ q os', w' = Go.Sort.grow (w.drewN q) os' := by
 have hu36 := Tryz.underlying38; have HB := am (Below.refl w.heap.size w); have HG := am (impl_guessOrder.Gr.refl w)
 have H := h; unfold impl_guessOrder.f at H
 clear h; replace H := bs H; obtain ⟨t248, A30, H⟩ := H; have A3 := Aside0.mk A30; clear A30; replace H := bs H; obtain ⟨t249, A40, H⟩ := H; have A4 := Aside0.mk A40; clear A40; obtain ⟨y250, hy250⟩ : ∃ y_ : List Int, y_ = (([t248, t249] : List Int)) := ⟨_, rfl⟩
 rw [← hy250] at H
 have Ny250 := am hy250; clear hy250; replace H := bs H; obtain ⟨t253, A50, H⟩ := H; have A5 := Aside0.mk A50; clear A50; obtain rfl := Option.some.inj H; go_enter Tryz.func40, Tryz.ntmps40
 try go_wp2_with (first | ((with_reducible refine gate_dst (N := 2) rfl ?_); refine impl_guessOrder.box HG.out ?hg (N := 2) ?hd (cs := #[.string a0_0, .int .i64 a0_1]) (t := 38) ?hr ?_; (case hd => rfl); (case hg => rfl); (case hr => (go_simp; done)); intro gb246 hg w6 hbox hb hgr; replace HG := am hgr; clear hgr; have BK246 := am (hbox); have GW246 := am ((b15_ : w.heap.size ≤ gb246)); have GE246 := am ((b15_ : w.heap.size ≤ gb246)); replace HB := am (below_step bel hb); clear hb hbox hg) | ((with_reducible refine gate_dst (N := 3) rfl ?_); refine impl_guessOrder.box HG.out ?hg (N := 3) ?hd (cs := #[.string a1_0, .int .i64 a1_1]) (t := 38) ?hr ?_; (case hd => rfl); (case hg => rfl); (case hr => (go_simp; done)); intro gb247 hg w7 hbox hb hgr; replace HG := am hgr; clear hgr; have BK247 := am (hbox); have GW247 := am ((by rw [hg]; exact (below_size (bel1 GE246.out)) : w.heap.size ≤ gb247)); have GE247 := am ((by rw [hg]; exact (below_size (bel1 GE246.out)) : w.heap.size ≤ gb247)); replace HB := am (below_step (bel1 GE246.out) hb); have NB246_247 := am ((by rw [hg]; exact Nat.ne_of_lt (blk_lt (g := gb246) (o := .cells #[.string a0_0, .int .i64 a0_1] 38 (0, 0)) (bq BK246.out)) : gb246 ≠ gb247)); have NB247_246 := am ((by rw [hg]; exact Nat.ne_of_gt (blk_lt (g := gb246) (o := .cells #[.string a0_0, .int .i64 a0_1] 38 (0, 0)) (bq BK246.out)) : gb247 ≠ gb246)); replace BK246 := am (blk_below (bq BK246.out) hb); clear hb hbox hg))
 have n0_ := am (blk_drew BK246.out); have n1_ := am (blk_drew BK247.out); have n2_ := am (below_drew1 HB.out); replace HG := am HG.out.drew; clear BK246; clear BK247; clear HB; have BK246 := n0_; have BK247 := n1_; have HB := n2_; clear n0_ n1_ n2_
 refine st (n := 13) (S := fun w' => w'.cell? ⟨gb246, 0, none⟩ = some (.string a0_0) ∧ w'.cell? ⟨gb246, 1, none⟩ = some (.int .i64 a0_1) ∧ w'.cell? ⟨gb247, 0, none⟩ = some (.string a1_0) ∧ w'.cell? ⟨gb247, 1, none⟩ = some (.int .i64 a1_1)) (ds := []) ⟨bd BK246.out 0, bd BK246.out 1, bd BK247.out 0, bd BK247.out 1⟩ (fun hHeld => ?_); refine with_tabW impl_guessOrder.tab1 impl_guessOrder.bits1 (fun HT_ HW_ => ?_)
 generalize w7.drew = w8 at BK246 BK247 HB HG hHeld ⊢
 refine pu 0 5 ?_
 refine pu 2 7 ?_
 refine pu 5 10 ?_
 refine pu 7 12 ?_
 refine tk4 1 6 hHeld ?_
 refine tk4 3 8 hHeld ?_
 refine tk4 6 11 hHeld ?_
 refine tk4 8 13 hHeld ?_
 refine on1 4 9 (fun K hK => ?_)
 refine go1 Tryz.func62 #[.int .i64 a0_1, .int .i64 a1_1] ?_
 with_reducible refine (cmp_Compare_int.calls a0_1 a1_1 t248 _ A3.out).mono ?_
 rintro e w' ⟨rfl, ⟨nd, rfl⟩⟩
 refine ⟨_, rfl, ?_⟩
 replace HG := am (HG.out.drewN nd)
 refine hK.out _ _ ⟨bd BK246.out 0, bd BK246.out 1, bd BK247.out 0, bd BK247.out 1⟩ (fun hHeld => ?_)
 clear hK K
 refine nm 9 ?_
 refine on1 9 14 (fun K hK => ?_)
 refine go1 Tryz.func63 #[.string a0_0, .string a1_0] ?_
 with_reducible refine (cmp_Compare_string.calls a0_0 a1_0 t249 _ A4.out).mono ?_
 rintro e w' ⟨rfl, ⟨nd, rfl⟩⟩
 refine ⟨_, rfl, ?_⟩
 replace HG := am (HG.out.drewN nd)
 refine hK.out _ _ ⟨bd BK246.out 0, bd BK246.out 1, bd BK247.out 0, bd BK247.out 1⟩ (fun hHeld => ?_)
 clear hK K
 refine nm 14 ?_
 refine on1 10 15 (fun K hK => ?_)
 refine impl_guessOrder.lit HG.out (Kd.int .i64) _ 3 ?hg (N := 15) ?hd (xs := ([t248, t249] : List Int)) (inner := [.int .i64 t248, .int .i64 t249]) (ok := fun _ => True) (okp := fun _ => True) ?hr ?hp (fun _ hk => hk) trivial (Below.refl _ _) (Nat.le_refl _) (by simp) ?_; (case hd => rfl); (case hg => rfl); (case hr => (go_simp; done)); (case hp => exact (Reps.one (show Kd.M (Kd.int .i64) _ _ _ t248 [.int .i64 t248] from rfl) (Reps.one (show Kd.M (Kd.int .i64) _ _ _ t249 [.int .i64 t249] from rfl) (Reps.none _ _))))
 intro v251 w9 ho10 hb hg_ hnew_ hgr
 replace HG := am hgr; clear hgr
 clear hg_ hnew_
 (rw [← Ny250.out] at ho10)
 have HO252 := am (Kd.R_lower ho10 (below_size (bel2 GE246.out GE247.out))); replace BK246 := am (blk_below (bq BK246.out) hb); replace BK247 := am (blk_below (bq BK247.out) hb); replace HB := am (below_step (bel2 GE246.out GE247.out) hb); clear hb ho10; obtain ⟨Ao11, co11, eo11⟩ := Kd.R_slice HO252.out
 (subst eo11)
 refine hK.out _ _ ⟨bd BK246.out 0, bd BK246.out 1, bd BK247.out 0, bd BK247.out 1⟩ (fun hHeld => ?_)
 clear hK K
 refine nm 15 ?_
 refine on1 11 16 (fun K hK => ?_)
 refine go1 Tryz.func61 #[.slice Ao11 y250.length co11] ?_
 with_reducible refine (cmp_Or_int.calls k _ _ y250 t253 _ ?side1 ?side2 A5.out).mono ?_
 (case side1 => exact cq (Kd.R_reads' HO252.out).2.2); (case side2 => exact (Kd.R_reads' HO252.out).2.1)
 rintro e w' ⟨rfl, ⟨nd, rfl⟩⟩
 refine ⟨_, rfl, ?_⟩
 replace HG := am (HG.out.drewN nd)
 refine hK.out _ _ ⟨bd BK246.out 0, bd BK246.out 1, bd BK247.out 0, bd BK247.out 1⟩ (fun hHeld => ?_)
 clear hK K
 refine nm 16 ?_
 refine pu 12 4 ?_
 refine done_ (done_of HT_.out (by kernel_rfl)) ?_
 try go_wp2
 go_ret
 exact ⟨eq_, by exact HG.out⟩

/-! ### impl_Guess: function 39 -/

instance impl_Guess.inh : Inhabited S38 := ⟨z38⟩
/-- How two guesses are ordered: by distance, then by word. -/
def impl_Guess.cf (x y : S38) : Int := if x.f1 < y.f1 then -1 else if x.f1 > y.f1 then 1 else if Op.bytesLess x.f0.toList y.f0.toList = true then -1 else if Op.bytesLess y.f0.toList x.f0.toList = true then 1 else 0
def impl_Guess.le (x y : S38) : Bool := !(ltOf impl_Guess.cf y x)
theorem impl_Guess.lt_iff (x y : S38) : ltOf impl_Guess.cf x y = true ↔ x.f1 < y.f1 ∨ (x.f1 = y.f1 ∧ x.f0.toList < y.f0.toList) := by
 unfold ltOf impl_Guess.cf
 simp only [bytesLess_eq, decide_eq_true_eq]
 by_cases h1 : x.f1 < y.f1
 ·simp [h1]
 ·by_cases h2 : y.f1 < x.f1
  ·have : ¬ x.f1 = y.f1 := by omega
   simp [h1, h2, this]
  ·have h3 : x.f1 = y.f1 := by omega
   by_cases h4 : x.f0.toList < y.f0.toList
   ·simp [h3, h4]
   ·by_cases h5 : y.f0.toList < x.f0.toList <;> simp [h3, h4, h5]
theorem impl_Guess.lf (x y : S38) : ltOf impl_Guess.cf x y = false ↔ ¬ (x.f1 < y.f1 ∨ (x.f1 = y.f1 ∧ x.f0.toList < y.f0.toList)) := by
 rw [← impl_Guess.lt_iff, Bool.not_eq_true]
theorem impl_Guess.swo : Go.Sort.SWO (ltOf impl_Guess.cf) where
 irrefl x := by
  rw [impl_Guess.lf]
  rintro (h | ⟨_, h⟩)
  ·omega
  ·exact List.lt_irrefl _ h
 trans x y z h1 h2 := by
  rw [impl_Guess.lt_iff] at *
  rcases h1 with h1 | ⟨h1, h3⟩ <;> rcases h2 with h2 | ⟨h2, h4⟩
  ·exact .inl (by omega)
  ·exact .inl (by omega)
  ·exact .inl (by omega)
  ·exact .inr ⟨by omega, List.lt_trans h3 h4⟩
 ntrans x y z h1 h2 := by
  rw [impl_Guess.lf] at *
  rintro (h | ⟨h, h3⟩)
  ·by_cases a : x.f1 < y.f1
   ·exact h1 (.inl a)
   ·exact h2 (.inl (by omega))
  ·have a : x.f1 = y.f1 := by
    by_cases a : x.f1 < y.f1
    ·exact absurd (.inl a) h1
    ·by_cases b : y.f1 < z.f1
     ·exact absurd (.inl b) h2
     ·omega
   have b : ¬ x.f0.toList < y.f0.toList := fun h4 => h1 (.inr ⟨a, h4⟩)
   have c : ¬ y.f0.toList < z.f0.toList := fun h4 => h2 (.inr ⟨by omega, h4⟩)
   exact absurd h3 (List.not_lt.2 (List.le_trans (List.not_lt.1 c) (List.not_lt.1 b)))
theorem impl_Guess.tot (x y : S38) (h1 : ltOf impl_Guess.cf x y = false) (h2 : ltOf impl_Guess.cf y x = false) : x = y := by
 rw [impl_Guess.lf] at *
 have a : x.f1 = y.f1 := by
  by_cases a : x.f1 < y.f1
  ·exact absurd (.inl a) h1
  ·by_cases b : y.f1 < x.f1
   ·exact absurd (.inl b) h2
   ·omega
 have b : x.f0.toList = y.f0.toList := List.le_antisymm (List.not_lt.1 fun h => h2 (.inr ⟨a.symm, h⟩)) (List.not_lt.1 fun h => h1 (.inr ⟨a, h⟩))
 rw [Lib.toList_data, Lib.toList_data] at b
 cases x; cases y
 simp only [S38.mk.injEq]
 exact ⟨ByteArray.ext (Array.toList_inj.1 b), a⟩
theorem impl_Guess.order (x y : S38) : impl_guessOrder.f 3 x.f0 x.f1 y.f0 y.f1 = some (impl_Guess.cf x y) := by
 have n1 : ∀ z : Int, (z != z) = false := fun z => by simp
 have n2 : ∀ z : ByteArray, (z.toList != z.toList) = false := fun z => by simp
 have o : ∀ u v : Int, cmp_Or_int.f 3 [u, v] = some (if u = 0 then v else u) := fun u v => by
  by_cases h : u = 0
  ·by_cases h2 : v = 0
   ·simp [cmp_Or_int.f, cmp_Or_int.l0, rd, h, h2, wrap64]
   ·simp [cmp_Or_int.f, cmp_Or_int.l0, rd, h, h2, wrap64]
  ·simp [cmp_Or_int.f, cmp_Or_int.l0, rd, h, wrap64]
 unfold impl_guessOrder.f cmp_Compare_int.f cmp_Compare_string.f cmp_isNaN_int.f cmp_isNaN_string.f impl_Guess.cf
 simp only [n1, n2, Option.bind_some, Bool.false_eq_true, if_false]
 by_cases h1 : x.f1 < y.f1
 ·by_cases h4 : Op.bytesLess x.f0.toList y.f0.toList = true <;> by_cases h5 : Op.bytesLess y.f0.toList x.f0.toList = true <;> simp [h1, h4, h5, o]
 ·by_cases h2 : x.f1 > y.f1
  ·by_cases h4 : Op.bytesLess x.f0.toList y.f0.toList = true <;> by_cases h5 : Op.bytesLess y.f0.toList x.f0.toList = true <;> simp [h1, h2, h4, h5, o]
  ·by_cases h4 : Op.bytesLess x.f0.toList y.f0.toList = true <;> by_cases h5 : Op.bytesLess y.f0.toList x.f0.toList = true <;> simp [h1, h2, h4, h5, o]
def impl_Guess.enc (x : S38) : List Value := [.string x.f0, .int .i64 x.f1]
def impl_Guess.fl (xs : List S38) : Array Value := Go.Sort.flatK impl_Guess.enc 2 xs.toArray
theorem impl_Guess.fl_size (xs : List S38) : (impl_Guess.fl xs).size = xs.length * 2 := by simp [impl_Guess.fl]
theorem impl_Guess.fl_get (xs : List S38) (j : Nat) (p : S38) (h : xs[j]? = some p) : ((impl_Guess.fl xs).toList.drop (j * 2)).take 2 = impl_Guess.enc p := by
 obtain ⟨hj, rfl⟩ := List.getElem?_eq_some_iff.1 h
 apply List.ext_getElem?
 intro t
 have e : ∀ t, t < 2 → (impl_Guess.fl xs)[j * 2 + t]! = (impl_Guess.enc xs[j])[t]! := fun t ht => by
  unfold impl_Guess.fl
  rw [Go.Sort.get_flatK _ _ _ _ (by simp; omega), show (j * 2 + t) / 2 = j by omega, show (j * 2 + t) % 2 = t by omega]
  simp [hj]
 rcases Nat.lt_or_ge t 2 with ht | ht
 ·rw [List.getElem?_take, if_pos ht, List.getElem?_drop, Array.getElem?_toList]
  have hs : j * 2 + t < (impl_Guess.fl xs).size := by rw [impl_Guess.fl_size]; omega
  have h2 := e t ht
  have h3 : t < (impl_Guess.enc xs[j]).length := by simpa [impl_Guess.enc] using ht
  rw [getElem!_pos (impl_Guess.fl xs) (j * 2 + t) hs, getElem!_pos (impl_Guess.enc xs[j]) t h3] at h2
  rw [Array.getElem?_eq_getElem hs, h2, List.getElem?_eq_getElem h3]
 ·rw [List.getElem?_eq_none (by simp; omega), List.getElem?_eq_none (by simp [impl_Guess.enc]; omega)]
theorem impl_Guess.reps (W : World) (base : Nat) (ok : Nat → Prop) (xs : List S38) : Reps (k38.M W base ok) 2 xs (impl_Guess.fl xs).toList :=
 ⟨by rw [Array.length_toList, impl_Guess.fl_size], fun j p h => by rw [impl_Guess.fl_get xs j p h]; exact k38_mkM W base ok p⟩
theorem impl_Guess.of_reps {W : World} {base : Nat} {ok : Nat → Prop} {xs : List S38} {cs : List Value} (h : Reps (k38.M W base ok) 2 xs cs) : cs = (impl_Guess.fl xs).toList := by
 apply List.ext_getElem?
 intro t
 rcases Nat.lt_or_ge t (xs.length * 2) with ht | ht
 ·have hj : t / 2 < xs.length := by omega
  have e1 := k38_openM (h.2 (t / 2) _ (List.getElem?_eq_getElem hj)); have e2 := impl_Guess.fl_get xs (t / 2) _ (List.getElem?_eq_getElem hj); have e3 := congrArg (fun l : List Value => l[t % 2]?) (e1.trans e2.symm)
  simp only [List.getElem?_take, List.getElem?_drop, if_pos (show t % 2 < 2 by omega), show t / 2 * 2 + t % 2 = t by omega] at e3
  exact e3
 ·rw [List.getElem?_eq_none (by rw [h.1]; exact ht), List.getElem?_eq_none (by rw [Array.length_toList, impl_Guess.fl_size]; exact ht)]
theorem impl_Guess.holds {w : World} {g : Nat} {cur : Array Value} {xs : List S38} (hb : w.heap[g]? = some (.cells cur 38 (0, 0))) (ht : cur.toList.take (xs.length * 2) = (impl_Guess.fl xs).toList) : Go.Sort.HoldsK impl_Guess.enc 2 w g 0 xs.toArray := by
 intro j hj
 have hj' : j < xs.length * 2 := by simpa using hj
 refine ⟨?_, by simp [World.frozen?, hb]⟩
 have h1 : (cur.toList.take (xs.length * 2))[j]? = (impl_Guess.fl xs).toList[j]? := by rw [ht]
 rw [List.getElem?_take_of_lt hj', Array.getElem?_toList, Array.getElem?_toList] at h1
 simp only [World.cell?, hb, Nat.zero_add]
 simp only [Option.isSome_none, Bool.false_eq_true, if_false]
 rw [h1, Array.getElem?_eq_getElem (by rw [impl_Guess.fl_size]; exact hj')]
 show _ = some (id (impl_Guess.fl xs)[j]!)
 rw [getElem!_pos _ _ (by rw [impl_Guess.fl_size]; exact hj')]
 rfl
theorem impl_Guess.take (cur F : Array Value) (h : F.size ≤ cur.size) : (Go.Sort.putCells id 0 F cur).toList.take F.size = F.toList := by
 apply List.ext_getElem?
 intro j
 by_cases hj : j < F.size
 ·rw [List.getElem?_take_of_lt hj, Array.getElem?_toList]
  simp [Go.Sort.putCells, hj, show j < cur.size by omega]
 ·rw [List.getElem?_take_eq_none (by omega), List.getElem?_eq_none (by simp; omega)]
set_option maxHeartbeats 1000000 in
theorem impl_Guess.row {w0 W : World} {base : Nat} {P0 : Nat → Prop} {v : Value} {xs : List S38} (h : Kd.R k38 38 W base P0 v xs) (hB : Below base w0 W) (hbase : base ≤ W.heap.size) (hl : xs.length ≤ 1000000000) :
  Calls Tryz.prog 39 #[v, .func (.func 40) #[] #[]] W fun e w' => e = .returned (.tuple #[]) ∧ Kd.R k38 38 w' base (fun k_ => P0 k_ ∨ W.heap.size ≤ k_) v (xs.mergeSort impl_Guess.le) ∧ Below base w0 w' ∧ Kept W w' P0 := by
 obtain ⟨hok, inner, ho, hr⟩ := h
 have hr2 : Reps (k38.M W base (fun k => P0 k ∧ some k ≠ v.ownBlock)) 2 xs inner := hr
 have ei := impl_Guess.of_reps hr2; subst ei
 rcases ho.2 with ⟨rfl, h0⟩ | ⟨g, cap, cur, rfl, hb, hg, h1, h2, h3, h4⟩
 ·have e0 : xs = [] := List.length_eq_zero_iff.1 h0
  subst e0
  have := AnyF.slices_SortFunc_none Try.laySortG none 0 (.func (.func 40) #[] #[]) W
  change Calls Tryz.prog 39 _ _ _ at this
  refine this.mono ?_
  rintro e w' ⟨he, rfl⟩
  refine ⟨he, ?_, hB, Nat.le_refl _, fun _ _ _ => rfl⟩
  rw [List.mergeSort_nil]
  exact Kd.R_nil _ _ _ _ _
 ·have hgl : g < W.heap.size := (Array.getElem?_eq_some_iff.1 hg).1
  have hsz : k38.sz = 2 := rfl
  rw [hsz] at h3 h4
  have hH := impl_Guess.holds hg h4
  have eg : ∀ args w, (callFunc 40 args).run Tryz.prog w = .ok (.enter 40 args) w := enters_of Tryz.func40 (by kernel_rfl) rfl
  have hcmp : CmpLays Tryz.prog 40 #[] impl_Guess.enc 2 impl_Guess.cf g 0 xs.toArray.size W := fun m os dk _ x y => impl_guessOrder.calls 3 x.f0 x.f1 y.f0 y.f1 _ _ (impl_Guess.order x y)
  have := AnyQ.slices_SortFunc_total (α := S38) Try.laySortG 2 Tryz.isAgg38 Tryz.sizeOf38 impl_Guess.enc (fun _ => rfl) (fun x v hv => by simp only [impl_Guess.enc, List.mem_cons, List.not_mem_nil, or_false] at hv; rcases hv with rfl | rfl <;> rfl) impl_Guess.cf impl_Guess.swo 40 #[] g 0 cap xs.toArray W eg hcmp hH hgl (by simp; omega) impl_Guess.tot
  change Calls Tryz.prog 39 #[.slice (some ⟨g, 0, none⟩) xs.length cap, .func (.func 40) #[] #[]] _ _ at this
  refine this.mono ?_
  rintro e w' ⟨he, n, os, rfl⟩
  have hl2 : (xs.mergeSort impl_Guess.le).length = xs.length := List.length_mergeSort xs
  have hhe : (sortWorldK impl_Guess.enc 2 W g 0 n (xs.toArray.toList.mergeSort fun x y => !(ltOf impl_Guess.cf) y x).toArray os).heap[g]? = some (.cells (Go.Sort.putCells id 0 (impl_Guess.fl (xs.mergeSort impl_Guess.le)) cur) 38 (0, 0)) := by
   show (Go.Sort.grow (Go.Sort.putRow id (Go.Sort.ahead W n) g 0 (impl_Guess.fl (xs.mergeSort impl_Guess.le))) os).heap[g]? = _
   rw [Go.Sort.heap_grow_old _ _ (by simpa using hgl)]
   simp [Go.Sort.putRow, Go.Sort.mapBlock, Go.Sort.ahead, Array.getElem?_modify, hg, Go.Sort.onCells]
  have hgr : W.grownBy (sortWorldK impl_Guess.enc 2 W g 0 n (xs.toArray.toList.mergeSort fun x y => !(ltOf impl_Guess.cf) y x).toArray os) (some g) := by
   refine ⟨rfl, rfl, rfl, by simp [sortWorldK, Go.Sort.putRowK], fun k hk hne => ?_⟩
   show (Go.Sort.grow (Go.Sort.putRow id (Go.Sort.ahead W n) g 0 (impl_Guess.fl (xs.mergeSort impl_Guess.le))) os).heap[k]? = _
   rw [Go.Sort.heap_grow_old _ _ (by simpa using hk)]
   have : g ≠ k := fun e => hne (by rw [e])
   simp [Go.Sort.putRow, Go.Sort.mapBlock, Go.Sort.ahead, Array.getElem?_modify, this]
  refine ⟨he, ⟨fun k hk => .inl (hok k hk), (impl_Guess.fl (xs.mergeSort impl_Guess.le)).toList, ⟨?_, .inr ⟨g, cap, _, by rw [hl2], hb, hhe, by rw [hl2]; exact h1, h2, by rw [hsz]; simpa [Go.Sort.putCells] using h3, ?_⟩⟩, impl_Guess.reps _ _ _ _⟩, hB.grown hgr hbase (fun j hj => by cases hj; exact hb), hgr.size, fun i hi hn => hgr.block i hi (fun e => hn (hok i (by rw [e]; rfl)))⟩
  ·rw [Array.length_toList, impl_Guess.fl_size, hsz]
  ·rw [hsz]
   have h5 := impl_Guess.take cur (impl_Guess.fl (xs.mergeSort impl_Guess.le)) (by rw [impl_Guess.fl_size, hl2, h3]; omega)
   rw [impl_Guess.fl_size] at h5
   exact h5
def impl_Guess.f (l0 : List S38) : Option (List S38) := if l0.length ≤ 1000000000 then some (l0.mergeSort impl_Guess.le) else none
-- @FA 39 40
theorem impl_Guess.calls (P0_ : Nat → Prop) (u9000_ : Value) (l0 r1 : List S38) (w0 w : World) (hB : Below w0.heap.size w0 w) (ho0 : Kd.R k38 38 w w0.heap.size P0_ u9000_ l0) (h : impl_Guess.f l0 = some r1) :
  Calls Tryz.prog 39 #[u9000_, .func (.func 40) #[] #[]] w fun e w' => e = .returned (.tuple #[]) ∧ Kd.R k38 38 w' w0.heap.size (fun k_ => (P0_ k_ ∨ w.heap.size ≤ k_)) u9000_ r1 ∧ Below w0.heap.size w0 w' ∧ Kept w w' (fun k_ => P0_ k_) := by
 unfold impl_Guess.f at h
 split at h
 case isFalse => cases h
 rename_i hsz; obtain rfl := Option.some.inj h
 exact impl_Guess.row ho0 hB hB.size hsz
-- shrunk

attribute [local go_sem high] eqA38
/-! ### impl_guesses: function 19 -/
def impl_guesses.l0 : Nat → ByteArray → Int → List (S38) → List ByteArray → Int → Int → Option ((List (S38)))
 | 0, _, _, _, _, _, _ => none
 | k + 1, x1, x2, x7, x11, x12, x13 => if x13 < x12 then (if 0 ≤ x13 then (if x13 < (x11.length : Int) then ((impl_Within.f k (rdOf ByteArray.empty x11 x13) x1 x2).bind fun t581 => (if t581 = true then ((impl_Far.f k (rdOf ByteArray.empty x11 x13) x1).bind fun t582 => (if x7.length < 5864062014805 then (impl_guesses.l0 k x1 x2 (x7 ++ [(⟨rdOf ByteArray.empty x11 x13, t582⟩ : S38)]) x11 x12 (wrap64 (x13 + 1))) else (none))) else (impl_guesses.l0 k x1 x2 x7 x11 x12 (wrap64 (x13 + 1))))) else (none)) else (none)) else ((impl_Guess.f x7).bind fun t569 => ((some (([] : List (S38)) : List (S38))).bind fun y570 => (if 0 ≤ (mn (x7.length : Int) 10) then (if (mn (x7.length : Int) 10) ≤ (x7.length : Int) then ((some (t569.take ((mn (x7.length : Int) 10) : Int).toNat : List (S38))).bind fun y573 => (if y570.length + y573.length < 5864062014805 then (some (y570 ++ y573)) else (none))) else (none)) else (none))))
def impl_guesses.f (k : Nat) (l0 : List ByteArray) (a1 : ByteArray) (a2 : Int) : Option ((List (S38))) := impl_guesses.l0 k a1 a2 (([] : List (S38))) l0 (l0.length : Int) 0
theorem impl_guesses.calls (k : Nat) (A0 : Option Addr) (c0 : Nat) (l0 : List ByteArray) (a1 : ByteArray) (a2 : Int) (r : List (S38)) (w : World) (hr0 : Kd.C Kd.string w A0 l0.length l0) (hc0 : l0.length ≤ c0) (h : impl_guesses.f k l0 a1 a2 = some r) :
  Calls Tryz.prog 19 #[.slice A0 l0.length c0, .string a1, .int .i64 a2] w fun e w' => ∃ v0_ : Value, e = .returned (v0_) ∧ Kd.R k38 38 w' w.heap.size (fun _ => True) v0_ r ∧ Below w.heap.size w w' := by
 have hu38 := Tryz.underlying38; have HR0 := am hr0; have HC0 := am hc0; clear hr0 hc0; have HB := am (Below.refl w.heap.size w)
 have H := h; unfold impl_guesses.f at H
 clear h; obtain ⟨y566, hy566⟩ : ∃ y_ : List (S38), y_ = (([] : List (S38))) := ⟨_, rfl⟩
 rw [← hy566] at H
 have Ny566 := am hy566; clear hy566
 have H' := am H
 clear H; go_enter Tryz.func19, Tryz.ntmps19
 go_wp2_with ((with_reducible refine gate_dst (N := 10) rfl ?_); refine Kd.R_lit k38 _ 38 ?hg (N := 10) ?hd (xs := ([] : List (S38))) (inner := []) (ok := fun _ => True) (okp := fun _ => True) ?hr ?hp (fun _ hk => hk) trivial (Below.refl _ _) (Nat.le_refl _) (by simp) ?_; (case hd => rfl); (case hg => rfl); (case hr => (go_simp; done)); (case hp => exact (Reps.none _ _)); intro v567 w4 ho5 hb hg_ hnew_; clear hg_ hnew_; (rw [← Ny566.out] at ho5); have HO568 := am (Kd.R_lower ho5 (below_size bel)); replace HB := am (below_step bel hb); clear hb ho5)
 go_loopg [7, 13] k (fun kq v7 v13 w' => ∃ (x7_1 : List (S38)) (x13_1 : Int), v13 = .int .i64 x13_1 ∧ Aside0 (impl_guesses.l0 kq a1 a2 x7_1 l0 (l0.length : Int) x13_1 = some r) ∧ Aside0 (kq ≤ k) ∧ Aside0 (Kd.R k38 38 w' w.heap.size (fun _ => True) v7 x7_1) ∧ Aside0 (Below w.heap.size w w'))
 case atStart => exact ⟨(y566), (0), sq, H', ⟨Nat.le_refl _⟩, ⟨rq HO568.out⟩, ⟨bel⟩⟩
 case round =>
  clear H'; obtain ⟨x7_1, x13_1, rfl, HA, HK1, HO_7, HB⟩ := hrel
  cases gk with
  | zero => exact absurd HA.out (by simp [impl_guesses.l0])
  | succ k1 =>
   have H := HA.out; clear HA; simp only [impl_guesses.l0] at H
   by_cases c6 : x13_1 < (l0.length : Int)
   ·rw [if_pos c6] at H; have c6b0 := decide_eq_true c6; clear c6
    replace H := it H; obtain ⟨c7b0, H⟩ := H
    replace H := it H; obtain ⟨c8b0, H⟩ := H; replace H := bs H; obtain ⟨t581, A90, H⟩ := H; have A9 := Aside0.mk A90; clear A90
    by_cases c10 : t581 = true
    ·subst c10
     have H1 : ((impl_Far.f k1 (rdOf ByteArray.empty l0 x13_1) a1).bind fun t582 => (if x7_1.length < 5864062014805 then (impl_guesses.l0 k1 a1 a2 (x7_1 ++ [(⟨rdOf ByteArray.empty l0 x13_1, t582⟩ : S38)]) l0 (l0.length : Int) (wrap64 (x13_1 + 1))) else (none))) = some r := b26_
     replace H := H1; clear H1
     replace H := bs H; obtain ⟨t582, A110, H⟩ := H; have A11 := Aside0.mk A110; clear A110
     replace H := ip H; obtain ⟨c12, H⟩ := H; have LMc12 := Aside0.mk c12; clear c12; obtain ⟨y583, hy583⟩ : ∃ y_ : List (S38), y_ = (x7_1 ++ [(⟨rdOf ByteArray.empty l0 x13_1, t582⟩ : S38)]) := ⟨_, rfl⟩
     rw [← hy583] at H
     have Ny583 := am hy583; clear hy583
     have H' := am H
     clear H
     have p580 : 0 ≤ (x13_1 : Int) := of_decide_eq_true ad
     have q580 : x13_1 < (l0.length : Int) := of_decide_eq_true ad
     obtain ⟨ad580, e580, hx580_0⟩ := Kd.at_string HR0.out x13_1 p580 q580; cases e580; replace hx580_0 := kp HB.out hx580_0; replace p580 := eq_true p580; replace q580 := eq_true q580
     go_wp2_with (first | ((with_reducible refine gate_callee (f := 38) rfl ?_); refine gl 20 Tryz.func38 #[.string (rdOf ByteArray.empty l0 x13_1), .string a1, .int .i64 a2] ?_; (with_reducible refine (impl_Within.calls k1 (rdOf ByteArray.empty l0 x13_1) a1 a2 true _ A9.out).mono ?_); rintro e w13 ⟨rfl, hb⟩; refine ⟨_, rfl, ?_⟩; replace HO_7 := am (Kd.R_below (rq HO_7.out) hb); replace HB := am (below_step bel hb); clear hb) | ((with_reducible refine gate_callee (f := 11) rfl ?_); refine gl 25 Tryz.func11 #[.string (rdOf ByteArray.empty l0 x13_1), .string a1] ?_; (with_reducible refine (impl_Far.calls k1 (rdOf ByteArray.empty l0 x13_1) a1 t582 _ A11.out).mono ?_); rintro e w14 ⟨rfl, hb⟩; refine ⟨_, rfl, ?_⟩; replace HO_7 := am (Kd.R_below (rq HO_7.out) hb); replace HB := am (below_step bel hb); clear hb) | ((with_reducible refine gate_builtin (b := .append) (xs := #[.tmp 21, .tmp 27]) rfl ?_); at_builtin; refine Kd.R_append k38 (w0 := w) w.heap.size rfl (.tmp 21) (.tmp 27) 29 38 (.agg #[(.string ⟨#[]⟩), (.int .i64 0)]) 24 rfl Tryz.underlying29 info38 rfl (by decide) (by omega) u7 x7_1 (⟨rdOf ByteArray.empty l0 x13_1, t582⟩ : S38) [.string (rdOf ByteArray.empty l0 x13_1), .int .i64 t582] (fun _ => True) (fun _ => False) rfl rfl ?aP (fun _ hk => hk.elim) ?aF ?aO ?aB ?aS ?aL ?_; (case aP => exact k38_mkM _ _ _ (⟨rdOf ByteArray.empty l0 x13_1, t582⟩ : S38)); (case aB => exact bel); (case aF => exact (fun _ _ => trivial)); (case aO => exact (rq HO_7.out)); (case aS => exact (below_size bel)); (case aL => have := LMc12.out; omega); intro v584 w15 ho hb hg hat; rw [← Ny583.out] at ho; replace HB := am (hb); have HO585 := am (ho); clear HO_7; clear ho hb hg hat))
     go_roundg k1
     case measure => have := HK1.out; omega
     case rel => exact ⟨(y583), (wrap64 (x13_1 + 1)), sq, H', ⟨b81_⟩, ⟨rq HO585.out⟩, ⟨bel⟩⟩
    replace c10 := Bool.eq_false_iff.mpr c10; subst c10
    have H1 : (impl_guesses.l0 k1 a1 a2 x7_1 l0 (l0.length : Int) (wrap64 (x13_1 + 1))) = some r := b10_
    replace H := H1; clear H1
    have H' := am H
    clear H
    have p580 : 0 ≤ (x13_1 : Int) := of_decide_eq_true ad
    have q580 : x13_1 < (l0.length : Int) := of_decide_eq_true ad
    obtain ⟨ad580, e580, hx580_0⟩ := Kd.at_string HR0.out x13_1 p580 q580; cases e580; replace hx580_0 := kp HB.out hx580_0; replace p580 := eq_true p580; replace q580 := eq_true q580
    go_wp2_with ((with_reducible refine gate_callee (f := 38) rfl ?_); refine gl 20 Tryz.func38 #[.string (rdOf ByteArray.empty l0 x13_1), .string a1, .int .i64 a2] ?_; (with_reducible refine (impl_Within.calls k1 (rdOf ByteArray.empty l0 x13_1) a1 a2 false _ A9.out).mono ?_); rintro e w16 ⟨rfl, hb⟩; refine ⟨_, rfl, ?_⟩; replace HO_7 := am (Kd.R_below (rq HO_7.out) hb); replace HB := am (below_step bel hb); clear hb)
    go_roundg k1
    case measure => have := HK1.out; omega
    case rel => exact ⟨(x7_1), (wrap64 (x13_1 + 1)), sq, H', ⟨b81_⟩, ⟨rq HO_7.out⟩, ⟨bel⟩⟩
   rw [if_neg c6] at H; have c6b0 := decide_eq_false c6; clear c6; replace H := bs H; obtain ⟨t569, A170, H⟩ := H; have A17 := Aside0.mk A170; clear A170; obtain ⟨y570, hy570⟩ : ∃ y_ : List (S38), y_ = (([] : List (S38))) := ⟨_, rfl⟩
   replace H := bm H; rw [← hy570] at H
   have Ny570 := am hy570; clear hy570; obtain ⟨ji18, hji18⟩ : ∃ j_ : Int, (mn (x7_1.length : Int) 10) = j_ := ⟨_, rfl⟩
   rw [hji18] at H
   have hji18_ : (if 10 < (x7_1.length : Int) then 10 else (x7_1.length : Int)) = ji18 := hji18
   replace H := ip H; obtain ⟨c19, H⟩ := H; have c19b0 := eq_true c19
   have c19b1 : decide (0 ≤ (ji18)) = true := decide_eq_true c19
   clear c19; replace H := ip H; obtain ⟨c20, H⟩ := H; have c20b0 := eq_true c20
   have c20b1 : decide ((ji18) ≤ (x7_1.length : Int)) = true := decide_eq_true c20
   clear c20; obtain ⟨y573, hy573⟩ : ∃ y_ : List (S38), y_ = (t569.take ((ji18) : Int).toNat) := ⟨_, rfl⟩
   replace H := bm H; rw [← hy573] at H
   have Ny573 := am hy573; clear hy573
   replace H := ip H; obtain ⟨c21, H⟩ := H; have LMc21 := Aside0.mk c21; clear c21; obtain ⟨y577, hy577⟩ : ∃ y_ : List (S38), y_ = (y570 ++ y573) := ⟨_, rfl⟩
   rw [← hy577] at H
   have Ny577 := am hy577; clear hy577; obtain rfl := Option.some.inj H; obtain ⟨Ao22, co22, eo22⟩ := Kd.R_slice HO_7.out; subst eo22
   go_wp2_with (first | ((with_reducible refine gate_callee (f := 39) rfl ?_); refine gl 31 Tryz.func39 #[.slice Ao22 x7_1.length co22, .func (.func 40) #[] #[]] ?_; (with_reducible refine (impl_Guess.calls (fun k_ => some k_ = (.slice Ao22 x7_1.length co22 : Value).ownBlock) (.slice Ao22 x7_1.length co22) x7_1 t569 w _ ?side1 ?side2 A17.out).mono ?_); (case side1 => repeat (with_reducible exact HB.out)); (case side2 => exact Kd.R_tight rfl HO_7.out); rintro e w23 ⟨rfl, hy0, hb, hkp⟩; refine ⟨_, rfl, ?_⟩; replace HO_7 := am (Kd.R_reok rfl hy0 (fun k_ e_ => HO_7.out.1 k_ e_)); replace HB := am (hb); clear hb hkp hy0) | ((with_reducible refine gate_dst (N := 32) rfl ?_); refine Kd.R_lit k38 _ 38 ?hg (N := 32) ?hd (xs := ([] : List (S38))) (inner := []) (ok := fun _ => True) (okp := fun _ => True) ?hr ?hp (fun _ hk => hk) trivial (Below.refl _ _) (Nat.le_refl _) (by simp) ?_; (case hd => rfl); (case hg => rfl); (case hr => (go_simp; done)); (case hp => exact (Reps.none _ _)); intro v571 w24 ho25 hb hg_ hnew_; clear hg_ hnew_; (rw [← Ny570.out] at ho25); have HO572 := am (Kd.R_lower (Kd.R_new' ho25 (Kd.R_lt (rq HO_7.out))) (below_size bel)); replace HO_7 := am (Kd.R_elder' (rq HO_7.out) (Kd.R_base ho25) hb); replace HB := am (below_step bel hb); clear hb ho25; have hlx26 := (Kd.R_reads' HO_7.out).1; have q26 : ((ji18) : Int) ≤ ((x7_1.length : Int) : Int) := of_decide_eq_true ad; obtain ⟨i026, hi026, _, hsz26, _⟩ := info_parts info38; have hroom26 : x7_1.length ≤ co22 := (Kd.R_reads' HO_7.out).2.1; have hroomc26 : t569.length ≤ co22 := (by rw [← hlx26]; exact hroom26); have hC26 : Kd.C k38 _ Ao22 t569.length t569 := (Kd.R_reads' HO_7.out).2.2; have hcut26 := cut_to (P := Tryz.prog) 29 38 .i64 Tryz.underlying29 hi026 Ao22 x7_1.length co22 (ji18) (of_decide_eq_true ad) q26 hroom26; have hr26 := Kd.C_take (m := ((ji18) : Int).toNat) hC26 (by omega); have hy26 : y573.length = ((ji18) : Int).toNat := (by rw [Ny573.out, List.length_take]; omega); rw [← Ny573.out] at hr26; rw [← hy26] at hcut26; have HR576 := am hr26; have HC576 := am (show y573.length ≤ co22 from by omega); clear hr26 hC26 hroom26 hi026 hsz26 hroomc26; have KY26 := am hy26; clear hy26; have KE26 := am hlx26; have KL26 := am (show ((ji18) : Int).toNat ≤ t569.length from by omega); clear hlx26; replace q26 := eq_true q26) | ((with_reducible refine gate_builtin (b := .append) (xs := #[.tmp 32, .tmp 37]) rfl ?_); at_builtin; refine Kd.R_append_rows k38 (w0 := w) w.heap.size rfl (.tmp 32) (.tmp 37) 29 38 (.agg #[(.string ⟨#[]⟩), (.int .i64 0)]) 24 rfl Tryz.underlying29 info38 rfl (by decide) (by omega) v571 y570 y573 _ _ _ (fun k_ => some k_ ≠ (.slice Ao22 x7_1.length co22 : Value).ownBlock) (fun _ => False) rfl rfl ?aO ?aR (fun _ _ h => h) (fun _ h => h.elim) ?aF ?aB ?aS ?aL ?_; (case aR => repeat (exact (by repeat (exact HR576.out)))); (case aB => exact bel); (case aF => exact (fun k_ hk => Kd.fresh' (Kd.R_lt (rq HO_7.out)) k_ hk)); (case aO => exact (rq (Kd.R_mono HO572.out (fun _ hk => hk.2)))); (case aS => exact (below_size bel)); (case aL => have := LMc21.out; omega); intro v578 w27 ho hb hg hat; rw [← Ny577.out] at ho; replace HB := am (hb); replace HR576 := am ((show Kd.C k38 w27 Ao22 y573.length y573 from by rw [Ny573.out]; exact Kd.C_take (m := ((ji18) : Int).toNat) ((Kd.R_reads' (Kd.R_after (ok := (fun _ => True)) (rq HO_7.out) hg hat)).2.2) KL26.out)); replace HO_7 := am (Kd.R_after (ok := (fun _ => True)) (rq HO_7.out) hg hat); have HO579 := am (ho); clear HO572; clear ho hb hg hat))
   go_ret
   exact ⟨_, by rfl, by (with_reducible repeat (fail)); exact Kd.R_mono HO579.out (fun _ hk => trivial), bel⟩

/-! ### impl_BookGuesses: function 5 -/
mutual
def impl_BookGuesses.j0 : Nat → ByteArray → List (S38) → Bool → List (S59) → List (S51) → Option ((List (S38)))
 | 0, _, _, _, _, _ => none
 | k + 1, x1, x5, x21, x587000, x587001 => if x21 = true then (some x5) else ((impl_Book_words.f k x587000 x587001).bind fun t593 => ((impl_guesses.f k t593 x1 2).bind fun t596 => (impl_BookGuesses.l0 k x5 t596 (t596.length : Int) 0)))
def impl_BookGuesses.l0 : Nat → List (S38) → List (S38) → Int → Int → Option ((List (S38)))
 | 0, _, _, _, _ => none
 | k + 1, x5, x26, x27, x28 => if x28 < x27 then (if 0 ≤ x28 then (if x28 < (x26.length : Int) then (if (x5.length : Int) > 0 then (if 0 < (x5.length : Int) then (if ((rd_T38 x26 x28).f1) = ((rd_T38 x5 0).f1) then (if x5.length < 5864062014805 then (impl_BookGuesses.l0 k (x5 ++ [(⟨(rd_T38 x26 x28).f0, (rd_T38 x26 x28).f1⟩ : S38)]) x26 x27 (wrap64 (x28 + 1))) else (none)) else (some x5)) else (none)) else (if x5.length < 5864062014805 then (impl_BookGuesses.l0 k (x5 ++ [(⟨(rd_T38 x26 x28).f0, (rd_T38 x26 x28).f1⟩ : S38)]) x26 x27 (wrap64 (x28 + 1))) else (none))) else (none)) else (none)) else (some x5)
end
def impl_BookGuesses.f (k : Nat) (l0_0 : List (S59)) (l0_1 : List (S51)) (a1 : ByteArray) : Option ((List (S38))) := (some (([] : List (S38)) : List (S38))).bind fun y587 => ((impl_BookOk.f k l0_0 l0_1).bind fun t590 => (if t590 = true then ((impl_WordOk.f k a1).bind fun t591 => (if t591 = true then ((impl_BookKnows.f k l0_0 l0_1 a1).bind fun t592 => (impl_BookGuesses.j0 k a1 y587 t592 l0_0 l0_1)) else (impl_BookGuesses.j0 k a1 y587 true l0_0 l0_1))) else (impl_BookGuesses.j0 k a1 y587 true l0_0 l0_1)))
theorem impl_BookGuesses.calls (k : Nat) (A0_0 : Option Addr) (c0_0 : Nat) (l0_0 : List (S59)) (A0_1 : Option Addr) (c0_1 : Nat) (l0_1 : List (S51)) (a1 : ByteArray) (r : List (S38)) (w : World) (hr0_0 : Kd.C k59 w A0_0 l0_0.length l0_0) (hc0_0 : l0_0.length ≤ c0_0) (hr0_1 : Kd.C k51 w A0_1 l0_1.length l0_1) (hc0_1 : l0_1.length ≤ c0_1) (h : impl_BookGuesses.f k l0_0 l0_1 a1 = some r) :
  Calls Tryz.prog 5 #[.agg #[.slice A0_0 l0_0.length c0_0, .slice A0_1 l0_1.length c0_1], .string a1] w fun e w' => ∃ v0_ : Value, e = .returned (v0_) ∧ Kd.R k38 38 w' w.heap.size (fun _ => True) v0_ r ∧ Below w.heap.size w w' := by
 have hu26 := Tryz.underlying26; have hu38 := Tryz.underlying38; have HR0_0 := am hr0_0; have HC0_0 := am hc0_0; clear hr0_0 hc0_0; have HR0_1 := am hr0_1; have HC0_1 := am hc0_1; clear hr0_1 hc0_1; have HB := am (Below.refl w.heap.size w)
 have H := h; unfold impl_BookGuesses.f at H
 clear h; obtain ⟨y587, hy587⟩ : ∃ y_ : List (S38), y_ = (([] : List (S38))) := ⟨_, rfl⟩
 replace H := bm H; rw [← hy587] at H
 have Ny587 := am hy587; clear hy587; have HC3 := am H; clear H; go_enter Tryz.func5, Tryz.ntmps5
 go_upto_region 2 with (first | ((with_reducible refine gate_dst (N := 2) rfl ?_); refine bx 2 (cs := #[.slice A0_0 l0_0.length c0_0, .slice A0_1 l0_1.length c0_1]) (t := 26) ?_; intro gb586 hg w4 hbox hb; have BK586 := am (hbox); have GW586 := am ((b15_ : w.heap.size ≤ gb586)); have GE586 := am ((b15_ : w.heap.size ≤ gb586)); replace HB := am (below_step bel hb); clear hb hbox hg) | ((with_reducible refine gate_dst (N := 8) rfl ?_); refine Kd.R_lit k38 _ 38 ?hg (N := 8) ?hd (xs := ([] : List (S38))) (inner := []) (ok := fun _ => True) (okp := fun _ => True) ?hr ?hp (fun _ hk => hk) trivial (Below.refl _ _) (Nat.le_refl _) (by simp) ?_; (case hd => rfl); (case hg => rfl); (case hr => (go_simp; done)); (case hp => exact (Reps.none _ _)); intro v588 w5 ho6 hb hg_ hnew_; clear hg_ hnew_; (rw [← Ny587.out] at ho6); have HO589 := am (Kd.R_lower ho6 (below_size (bel1 GE586.out))); replace BK586 := am (blk_below (bq BK586.out) hb); replace HB := am (below_step (bel1 GE586.out) hb); clear hb ho6))
 repeat (go_quiet (fail); go_upto_region 2 with (fail))
 go_cut [21] (fun v21 wc => ∃ (kq : Nat) (x21_2 : Bool), v21 = .bool x21_2 ∧ Aside0 (impl_BookGuesses.j0 kq a1 y587 x21_2 l0_0 l0_1 = some r) ∧ Aside0 (kq ≤ k) ∧ Aside0 (Kd.R k38 38 wc w.heap.size (fun _ => True) v588 y587) ∧ Aside0 (wc.heap[gb586]? = some (.cells #[(.slice A0_0 l0_0.length c0_0), (.slice A0_1 l0_1.length c0_1)] 26 (0, 0))) ∧ Aside0 (Below w.heap.size w wc))
 case first =>
  have H := HC3.out; clear HC3; replace H := bs H; obtain ⟨t590, A70, H⟩ := H; have A7 := Aside0.mk A70; clear A70
  by_cases c8 : t590 = true
  ·subst c8
   have H1 : ((impl_WordOk.f k a1).bind fun t591 => (if t591 = true then ((impl_BookKnows.f k l0_0 l0_1 a1).bind fun t592 => (impl_BookGuesses.j0 k a1 y587 t592 l0_0 l0_1)) else (impl_BookGuesses.j0 k a1 y587 true l0_0 l0_1))) = some r := b26_
   replace H := H1; clear H1
   replace H := bs H; obtain ⟨t591, A90, H⟩ := H; have A9 := Aside0.mk A90; clear A90
   by_cases c10 : t591 = true
   ·subst c10
    have H1 : ((impl_BookKnows.f k l0_0 l0_1 a1).bind fun t592 => (impl_BookGuesses.j0 k a1 y587 t592 l0_0 l0_1)) = some r := b26_
    replace H := H1; clear H1
    replace H := bs H; obtain ⟨t592, A110, H⟩ := H; have A11 := Aside0.mk A110; clear A110
    have H' := am H
    clear H; have ⟨hcz12_0, hcz12_1, hfz12_0, hfz12_1⟩ := b2c BK586.out
    have hcz14_0 := bc BK586.out 0
    have hcz14_1 := bc BK586.out 1
    have hfz14_0 := bf BK586.out 0
    have hfz14_1 := bf BK586.out 1
    go_wp2_with (first | (go_at_call 17; (with_reducible refine (impl_BookOk.calls k _ _ l0_0 _ _ l0_1 true _ ?side1 ?side2 ?side3 ?side4 A7.out).mono ?_); (case side1 => exact cq (Kd.C_below HR0_0.out HB.out)); (case side2 => exact HC0_0.out); (case side3 => exact cq (Kd.C_below HR0_1.out HB.out)); (case side4 => exact HC0_1.out); rintro e w13 ⟨rfl, hb⟩; replace HO589 := am (Kd.R_below (rq HO589.out) hb); replace BK586 := am (blk_below (bq BK586.out) hb); replace HB := am (below_step (bel1 GE586.out) hb); clear hb) | (go_at_call 18; (with_reducible refine (impl_WordOk.calls k a1 true _ A9.out).mono ?_); rintro e w' ⟨rfl, ⟨nd, rfl⟩⟩; (have ⟨hcz14_0, hcz14_1, hfz14_0, hfz14_1⟩ := b2c BK586.out)) | (go_at_call 12; (with_reducible refine (impl_BookKnows.calls k _ _ l0_0 _ _ l0_1 a1 t592 _ ?side1 ?side2 ?side3 ?side4 A11.out).mono ?_); (case side1 => exact cq (Kd.C_below HR0_0.out (bel1 GE586.out))); (case side2 => exact HC0_0.out); (case side3 => exact cq (Kd.C_below HR0_1.out (bel1 GE586.out))); (case side4 => exact HC0_1.out); rintro e w15 ⟨rfl, hb⟩; replace HO589 := am (Kd.R_below (rq HO589.out) hb); replace BK586 := am (blk_below (bq BK586.out) hb); replace HB := am (below_step (bel1 GE586.out) hb); clear hb))
    repeat (go_quiet (fail); try go_wp2)
    go_meet
    case rel => exact ⟨_, (t592), sq, H', ⟨b59_⟩, ⟨rq HO589.out⟩, ⟨bq BK586.out⟩, ⟨bel1 GE586.out⟩⟩
   replace c10 := Bool.eq_false_iff.mpr c10; subst c10
   have H1 : (impl_BookGuesses.j0 k a1 y587 true l0_0 l0_1) = some r := b10_
   replace H := H1; clear H1
   have H' := am H
   clear H; have ⟨hcz16_0, hcz16_1, hfz16_0, hfz16_1⟩ := b2c BK586.out
   go_wp2_with (first | (go_at_call 17; (with_reducible refine (impl_BookOk.calls k _ _ l0_0 _ _ l0_1 true _ ?side1 ?side2 ?side3 ?side4 A7.out).mono ?_); (case side1 => exact cq (Kd.C_below HR0_0.out HB.out)); (case side2 => exact HC0_0.out); (case side3 => exact cq (Kd.C_below HR0_1.out HB.out)); (case side4 => exact HC0_1.out); rintro e w17 ⟨rfl, hb⟩; replace HO589 := am (Kd.R_below (rq HO589.out) hb); replace BK586 := am (blk_below (bq BK586.out) hb); replace HB := am (below_step (bel1 GE586.out) hb); clear hb) | (go_at_call 18; (with_reducible refine (impl_WordOk.calls k a1 false _ A9.out).mono ?_); rintro e w' ⟨rfl, ⟨nd, rfl⟩⟩))
   repeat (go_quiet (fail); try go_wp2)
   go_meet
   case rel => exact ⟨_, (true), sq, H', ⟨b59_⟩, ⟨rq HO589.out⟩, ⟨bq BK586.out⟩, ⟨bel1 GE586.out⟩⟩
  replace c8 := Bool.eq_false_iff.mpr c8; subst c8
  have H1 : (impl_BookGuesses.j0 k a1 y587 true l0_0 l0_1) = some r := b10_
  replace H := H1; clear H1
  have H' := am H
  clear H; have ⟨hcz18_0, hcz18_1, hfz18_0, hfz18_1⟩ := b2c BK586.out
  go_wp2_with (go_at_call 17; (with_reducible refine (impl_BookOk.calls k _ _ l0_0 _ _ l0_1 false _ ?side1 ?side2 ?side3 ?side4 A7.out).mono ?_); (case side1 => exact cq (Kd.C_below HR0_0.out HB.out)); (case side2 => exact HC0_0.out); (case side3 => exact cq (Kd.C_below HR0_1.out HB.out)); (case side4 => exact HC0_1.out); rintro e w19 ⟨rfl, hb⟩; replace HO589 := am (Kd.R_below (rq HO589.out) hb); replace BK586 := am (blk_below (bq BK586.out) hb); replace HB := am (below_step (bel1 GE586.out) hb); clear hb)
  repeat (go_quiet (fail); try go_wp2)
  go_meet
  case rel => exact ⟨_, (true), sq, H', ⟨b59_⟩, ⟨rq HO589.out⟩, ⟨bq BK586.out⟩, ⟨bel1 GE586.out⟩⟩
 case rest =>
  clear HC3; obtain ⟨kq, x21_2, rfl, HA, HJ2, HO_5, BK586, HB⟩ := hcut
  cases kq with
  | zero => exact absurd HA.out (by simp [impl_BookGuesses.j0])
  | succ kj2 =>
   have H := HA.out; clear HA; simp only [impl_BookGuesses.j0] at H
   by_cases c20 : x21_2 = true
   ·subst c20
    have H1 : (some y587) = some r := b26_
    replace H := H1; clear H1
    obtain rfl := Option.some.inj H; go_wp2
    repeat (go_quiet (fail); try go_wp2)
    go_ret
    exact ⟨_, eq_, by (with_reducible repeat (fail)); exact HO_5.out, bel1 GE586.out⟩
   replace c20 := Bool.eq_false_iff.mpr c20; subst c20
   have H1 : ((impl_Book_words.f kj2 l0_0 l0_1).bind fun t593 => ((impl_guesses.f kj2 t593 a1 2).bind fun t596 => (impl_BookGuesses.l0 kj2 y587 t596 (t596.length : Int) 0))) = some r := b10_
   replace H := H1; clear H1
   replace H := bs H; obtain ⟨t593, A210, H⟩ := H; have A21 := Aside0.mk A210; clear A210; replace H := bs H; obtain ⟨t596, A220, H⟩ := H; have A22 := Aside0.mk A220; clear A220
   have H' := am H
   clear H; have ⟨hcz23_0, hcz23_1, hfz23_0, hfz23_1⟩ := b2c BK586.out
   go_wp2_with (first | (go_at_call 20; (with_reducible refine (impl_Book_words.calls kj2 _ _ l0_0 _ _ l0_1 t593 _ ?side1 ?side2 ?side3 ?side4 A21.out).mono ?_); (case side1 => exact cq (Kd.C_below HR0_0.out HB.out)); (case side2 => exact HC0_0.out); (case side3 => exact cq (Kd.C_below HR0_1.out HB.out)); (case side4 => exact HC0_1.out); rintro e w24 ⟨v594, rfl, ho0, hb⟩; replace HO_5 := am (Kd.R_below (rq HO_5.out) hb); have HO595 := am (Kd.R_lower ho0 (below_size (bel1 GE586.out))); replace BK586 := am (blk_below (bq BK586.out) hb); replace HB := am (below_step (bel1 GE586.out) hb); clear hb; clear ho0; obtain ⟨Ao25, co25, eo25⟩ := Kd.R_slice HO595.out; subst eo25) | (go_at_call 19; (with_reducible refine (impl_guesses.calls kj2 _ _ t593 a1 2 t596 _ ?side1 ?side2 A22.out).mono ?_); (case side1 => exact cq (Kd.R_reads' HO595.out).2.2); (case side2 => exact (Kd.R_reads' HO595.out).2.1); rintro e w26 ⟨v597, rfl, ho0, hb⟩; replace HO595 := am (Kd.R_below (rq HO595.out) hb); have HO598 := am (Kd.R_lower (Kd.R_new' ho0 (Kd.R_lt (rq HO_5.out))) (below_size (bel1 GE586.out))); replace HO_5 := am (Kd.R_elder' (rq HO_5.out) (Kd.R_base ho0) hb); replace BK586 := am (blk_below (bq BK586.out) hb); replace HB := am (below_step (bel1 GE586.out) hb); clear hb; clear ho0; obtain ⟨Ao27, co27, eo27⟩ := Kd.R_slice HO598.out; subst eo27))
   repeat (go_quiet (fail); try go_wp2)
   go_loopg [5, 28] kj2 (fun kq v5 v28 w' => ∃ (x5_2 : List (S38)) (x28_2 : Int), v28 = .int .i64 x28_2 ∧ Aside0 (impl_BookGuesses.l0 kq x5_2 t596 (t596.length : Int) x28_2 = some r) ∧ Aside0 (kq ≤ kj2) ∧ Aside0 (Kd.R k38 38 w' w.heap.size (fun k_ => some k_ ≠ ((.slice Ao27 t596.length co27) : Value).ownBlock) v5 x5_2) ∧ Aside0 (Kd.R k38 38 w' w.heap.size (fun k_ => some k_ ≠ (v5 : Value).ownBlock) (.slice Ao27 t596.length co27) t596) ∧ Aside0 (w'.heap[gb586]? = some (.cells #[(.slice A0_0 l0_0.length c0_0), (.slice A0_1 l0_1.length c0_1)] 26 (0, 0))) ∧ Aside0 (Below w.heap.size w w'))
   case atStart => exact ⟨(y587), (0), sq, H', ⟨Nat.le_refl _⟩, ⟨rq (Kd.R_mono HO_5.out (fun _ hk => hk.2))⟩, ⟨rq (Kd.R_mono HO598.out (fun _ hk => hk.2))⟩, ⟨bq BK586.out⟩, ⟨bel1 GE586.out⟩⟩
   case round =>
    clear H'; clear hcz23_0 hcz23_1 hfz23_0 hfz23_1; obtain ⟨x5_2, x28_2, rfl, HA, HK2, HO_5, HO_26, BK586, HB⟩ := hrel
    cases gk with
    | zero => exact absurd HA.out (by simp [impl_BookGuesses.l0])
    | succ k2 =>
     have H := HA.out; clear HA; simp only [impl_BookGuesses.l0] at H
     by_cases c28 : x28_2 < (t596.length : Int)
     ·rw [if_pos c28] at H; have c28b0 := decide_eq_true c28; clear c28
      replace H := it H; obtain ⟨c29b0, H⟩ := H; replace H := it H; obtain ⟨c30b0, H⟩ := H
      by_cases c31 : (x5_2.length : Int) > 0
      ·rw [if_pos c31] at H; have c31b0 := decide_eq_true c31
       have c31b1 : decide (0 < x5_2.length) = true := decide_eq_true (by omega)
       clear c31; replace H := ip H; obtain ⟨c32, H⟩ := H; have c32b0 := decide_eq_true c32
       have c32b1 : decide (0 < x5_2.length) = true := decide_eq_true (by omega)
       clear c32
       by_cases c33 : ((rd_T38 t596 x28_2).f1) = ((rd_T38 x5_2 0).f1)
       ·rw [if_pos c33] at H
        have c33b0 : (((rd_T38 t596 x28_2).f1) == ((rd_T38 x5_2 0).f1)) = true := beq_iff_eq.mpr c33
        have c33b1 : (((rd_T38 t596 x28_2).f1) != ((rd_T38 x5_2 0).f1)) = false := bne_eq_false_iff_eq.mpr c33
        clear c33
        replace H := ip H; obtain ⟨c34, H⟩ := H; have LMc34 := Aside0.mk c34; clear c34; obtain ⟨y602, hy602⟩ : ∃ y_ : List (S38), y_ = (x5_2 ++ [(⟨(rd_T38 t596 x28_2).f0, (rd_T38 t596 x28_2).f1⟩ : S38)]) := ⟨_, rfl⟩
        rw [← hy602] at H
        have Ny602 := am hy602; clear hy602
        have H' := am H
        clear H
        have p599 : 0 ≤ (x28_2 : Int) := of_decide_eq_true ad
        have q599 : x28_2 < (t596.length : Int) := of_decide_eq_true ad
        obtain ⟨ad599, e599, hx599_0, hx599_1⟩ := at_T38 (Kd.R_reads' HO_26.out).2.2 x28_2 p599 q599; cases e599; replace p599 := eq_true p599; replace q599 := eq_true q599
        go_wp2_with ((with_reducible refine gate_dst (N := 7) rfl ?_); refine bx 7 (cs := #[.string (⟨#[]⟩ : ByteArray), .int .i64 0]) (t := 38) ?_; intro gb600 hg w35 hbox hb; replace HO_5 := am (Kd.R_below (Kd.R_elderB (rq HO_5.out) gb600 (Nat.le_of_eq hg.symm)) hb); replace HO_26 := am (Kd.R_below (Kd.R_elderB (rq HO_26.out) gb600 (Nat.le_of_eq hg.symm)) hb); have BK600 := am (hbox); have GW600 := am ((b66_ : w.heap.size ≤ gb600)); have GE600 := am ((b66_ : w.heap.size ≤ gb600)); replace HB := am (below_step (bel1 GE586.out) hb); have NB586_600 := am ((b46_ : gb586 ≠ gb600)); have NB600_586 := am ((b47_ : gb600 ≠ gb586)); replace BK586 := am (blk_below (bq BK586.out) hb); clear hb hbox hg; have hnb36 := NB600_586.out; have hnc36 := NB586_600.out; have ⟨hcz37_0, hcz37_1, hfz37_0, hfz37_1⟩ := b2c BK600.out; obtain ⟨Ao38, co38, eo38⟩ := Kd.R_slice HO_5.out; subst eo38; have p601 : 0 ≤ (0 : Int) := (by omega); have q601 : 0 < (x5_2.length : Int) := of_decide_eq_true ad; obtain ⟨ad601, e601, hx601_0, hx601_1⟩ := at_T38 (Kd.R_reads' HO_5.out).2.2 0 p601 q601; cases e601; have qi601 : (0 < x5_2.length) = True := eq_true (by omega); rw [show ((0 : Int)).toNat = 0 from rfl] at hx601_0; rw [show 0 * 2 = 0 from rfl] at hx601_0; rw [Addr.add_zero'] at hx601_0; rw [show ((0 : Int)).toNat = 0 from rfl] at hx601_1; rw [show 0 * 2 = 0 from rfl] at hx601_1; rw [Addr.add_zero'] at hx601_1; have hn601_0 : ad601.block ≠ gb600 := (by exact (HO_5.out.1 _ rfl).2); have hn601_1 : ad601.block ≠ gb600 := (by exact (HO_5.out.1 _ rfl).2); replace hx601_0 := (cell_far (p := ⟨gb600, 0, none⟩) b41_ (.string ((rd_T38 t596 x28_2).f0))).trans hx601_0; replace hx601_1 := (cell_far (p := ⟨gb600, 0, none⟩) b41_ (.string ((rd_T38 t596 x28_2).f0))).trans hx601_1; replace hx601_0 := (cell_far (p := ⟨gb600, 1, none⟩) b42_ (.int .i64 ((rd_T38 t596 x28_2).f1))).trans hx601_0; replace hx601_1 := (cell_far (p := ⟨gb600, 1, none⟩) b42_ (.int .i64 ((rd_T38 t596 x28_2).f1))).trans hx601_1; have hy601_0 := fun (n_ : Nat) => (show ((((w35.drewN n_).setCell ⟨gb600, 0, none⟩ (.string ((rd_T38 t596 x28_2).f0))).setCell ⟨gb600, 1, none⟩ (.int .i64 ((rd_T38 t596 x28_2).f1)))).cell? _ = some _ from hx601_0); have hy601_1 := fun (n_ : Nat) => (show ((((w35.drewN n_).setCell ⟨gb600, 0, none⟩ (.string ((rd_T38 t596 x28_2).f0))).setCell ⟨gb600, 1, none⟩ (.int .i64 ((rd_T38 t596 x28_2).f1)))).cell? _ = some _ from hx601_1); clear hn601_0; clear hn601_1; replace p601 := eq_true p601; replace q601 := eq_true q601)
        repeat (go_quiet (fail); try go_wp2_with ((with_reducible refine gate_builtin (b := .append) (xs := #[.tmp 44, .tmp 46]) rfl ?_); at_builtin; refine Kd.R_append k38 (w0 := w) w.heap.size rfl (.tmp 44) (.tmp 46) 29 38 (.agg #[(.string ⟨#[]⟩), (.int .i64 0)]) 24 rfl Tryz.underlying29 info38 rfl (by decide) (by omega) (.slice (some ad601) x5_2.length co38) x5_2 (⟨(rd_T38 t596 x28_2).f0, (rd_T38 t596 x28_2).f1⟩ : S38) [.string ((rd_T38 t596 x28_2).f0), .int .i64 ((rd_T38 t596 x28_2).f1)] (fun k_ => some k_ ≠ (.slice (some ad599) t596.length co27 : Value).ownBlock ∧ k_ ≠ gb600) (fun _ => False) rfl b106_ ?aP (fun _ hk => hk.elim) ?aF ?aO ?aB ?aS ?aL ?_; (case aP => exact k38_mkM _ _ _ (⟨(rd_T38 t596 x28_2).f0, (rd_T38 t596 x28_2).f1⟩ : S38)); (case aB => exact (bel2 GE586.out GE600.out)); (case aF => exact (fun k_ hk => ⟨Kd.fresh' (Kd.R_lt (rq ((Kd.R_mono (Kd.R_far (p := ⟨gb600, 1, none⟩) (Kd.R_far (p := ⟨gb600, 0, none⟩) (Kd.R_mono HO_26.out (fun k_ hk => (⟨hk, hk.2⟩ : _ ∧ k_ ≠ gb600))) (fun _ hk => hk.2) (.string ((rd_T38 t596 x28_2).f0))) (fun _ hk => hk.2) (.int .i64 ((rd_T38 t596 x28_2).f1))) (fun _ h_ => h_.1))))) k_ hk, Kd.freshB (g := gb600) (o := .cells #[.string ((rd_T38 t596 x28_2).f0), .int .i64 ((rd_T38 t596 x28_2).f1)] 38 (0, 0)) b5_ k_ hk⟩)); (case aO => exact (rq (Kd.R_mono (Kd.R_far (p := ⟨gb600, 1, none⟩) (Kd.R_far (p := ⟨gb600, 0, none⟩) (Kd.R_mono HO_5.out (fun k_ hk => (⟨hk, hk.2⟩ : _ ∧ k_ ≠ gb600))) (fun _ hk => hk.2) (.string ((rd_T38 t596 x28_2).f0))) (fun _ hk => hk.2) (.int .i64 ((rd_T38 t596 x28_2).f1))) (fun _ hk => ⟨hk.1.1, hk.1.2⟩)))); (case aS => exact (below_size (bel2 GE586.out GE600.out))); (case aL => have := LMc34.out; omega); intro v603 w39 ho hb hg hat; rw [← Ny602.out] at ho; replace HO_26 := am (Kd.R_after (ok := (fun k_ => k_ ≠ gb600)) (rq (Kd.R_mono (Kd.R_far (p := ⟨gb600, 1, none⟩) (Kd.R_far (p := ⟨gb600, 0, none⟩) (Kd.R_mono HO_26.out (fun k_ hk => (⟨hk, hk.2⟩ : _ ∧ k_ ≠ gb600))) (fun _ hk => hk.2) (.string ((rd_T38 t596 x28_2).f0))) (fun _ hk => hk.2) (.int .i64 ((rd_T38 t596 x28_2).f1))) (fun _ hk => ⟨hk.1.2, hk.1.1⟩))) hg hat); replace BK586 := am (blk_grown (g := gb586) (o := .cells #[.slice A0_0 l0_0.length c0_0, .slice A0_1 l0_1.length c0_1] 26 (0, 0)) b25_ hg (Kd.R_ne HO_5.out BK586.out (by decide))); replace BK600 := am (blk_grown (g := gb600) (o := .cells #[.string ((rd_T38 t596 x28_2).f0), .int .i64 ((rd_T38 t596 x28_2).f1)] 38 (0, 0)) b5_ hg (Kd.R_away HO_5.out (fun _ hk => hk.2))); replace HB := am (hb); have HO604 := am (ho); clear HO_5; clear ho hb hg hat))
        go_roundg k2
        case measure => have := HJ2.out; have := HK2.out; omega
        case rel => exact ⟨(y602), (wrap64 (x28_2 + 1)), sq, H', ⟨by have := HJ2.out; have := HK2.out; omega⟩, ⟨rq (Kd.R_mono HO604.out (fun _ hk => hk.1))⟩, ⟨rq (Kd.R_mono HO_26.out (fun _ hk => hk.2))⟩, ⟨bq BK586.out⟩, ⟨bel2 GE586.out GE600.out⟩⟩
       rw [if_neg c33] at H
       have c33b0 : (((rd_T38 t596 x28_2).f1) == ((rd_T38 x5_2 0).f1)) = false := beq_eq_false_iff_ne.mpr c33
       have c33b1 : (((rd_T38 t596 x28_2).f1) != ((rd_T38 x5_2 0).f1)) = true := bne_iff_ne.mpr c33
       obtain rfl := Option.some.inj H
       have p599 : 0 ≤ (x28_2 : Int) := of_decide_eq_true ad
       have q599 : x28_2 < (t596.length : Int) := of_decide_eq_true ad
       obtain ⟨ad599, e599, hx599_0, hx599_1⟩ := at_T38 (Kd.R_reads' HO_26.out).2.2 x28_2 p599 q599; cases e599; replace p599 := eq_true p599; replace q599 := eq_true q599
       go_wp2_with ((with_reducible refine gate_dst (N := 7) rfl ?_); refine bx 7 (cs := #[.string (⟨#[]⟩ : ByteArray), .int .i64 0]) (t := 38) ?_; intro gb600 hg w40 hbox hb; replace HO_5 := am (Kd.R_below (Kd.R_elderB (rq HO_5.out) gb600 (Nat.le_of_eq hg.symm)) hb); replace HO_26 := am (Kd.R_below (Kd.R_elderB (rq HO_26.out) gb600 (Nat.le_of_eq hg.symm)) hb); have BK600 := am (hbox); have GW600 := am ((b66_ : w.heap.size ≤ gb600)); have GE600 := am ((b66_ : w.heap.size ≤ gb600)); replace HB := am (below_step (bel1 GE586.out) hb); have NB586_600 := am ((b46_ : gb586 ≠ gb600)); have NB600_586 := am ((b47_ : gb600 ≠ gb586)); replace BK586 := am (blk_below (bq BK586.out) hb); clear hb hbox hg; have hnb41 := NB600_586.out; have hnc41 := NB586_600.out; have ⟨hcz42_0, hcz42_1, hfz42_0, hfz42_1⟩ := b2c BK600.out; obtain ⟨Ao43, co43, eo43⟩ := Kd.R_slice HO_5.out; subst eo43; have p601 : 0 ≤ (0 : Int) := (by omega); have q601 : 0 < (x5_2.length : Int) := of_decide_eq_true ad; obtain ⟨ad601, e601, hx601_0, hx601_1⟩ := at_T38 (Kd.R_reads' HO_5.out).2.2 0 p601 q601; cases e601; have qi601 : (0 < x5_2.length) = True := eq_true (by omega); rw [show ((0 : Int)).toNat = 0 from rfl] at hx601_0; rw [show 0 * 2 = 0 from rfl] at hx601_0; rw [Addr.add_zero'] at hx601_0; rw [show ((0 : Int)).toNat = 0 from rfl] at hx601_1; rw [show 0 * 2 = 0 from rfl] at hx601_1; rw [Addr.add_zero'] at hx601_1; have hn601_0 : ad601.block ≠ gb600 := (by exact (HO_5.out.1 _ rfl).2); have hn601_1 : ad601.block ≠ gb600 := (by exact (HO_5.out.1 _ rfl).2); replace hx601_0 := (cell_far (p := ⟨gb600, 0, none⟩) b41_ (.string ((rd_T38 t596 x28_2).f0))).trans hx601_0; replace hx601_1 := (cell_far (p := ⟨gb600, 0, none⟩) b41_ (.string ((rd_T38 t596 x28_2).f0))).trans hx601_1; replace hx601_0 := (cell_far (p := ⟨gb600, 1, none⟩) b42_ (.int .i64 ((rd_T38 t596 x28_2).f1))).trans hx601_0; replace hx601_1 := (cell_far (p := ⟨gb600, 1, none⟩) b42_ (.int .i64 ((rd_T38 t596 x28_2).f1))).trans hx601_1; have hy601_0 := fun (n_ : Nat) => (show ((((w40.drewN n_).setCell ⟨gb600, 0, none⟩ (.string ((rd_T38 t596 x28_2).f0))).setCell ⟨gb600, 1, none⟩ (.int .i64 ((rd_T38 t596 x28_2).f1)))).cell? _ = some _ from hx601_0); have hy601_1 := fun (n_ : Nat) => (show ((((w40.drewN n_).setCell ⟨gb600, 0, none⟩ (.string ((rd_T38 t596 x28_2).f0))).setCell ⟨gb600, 1, none⟩ (.int .i64 ((rd_T38 t596 x28_2).f1)))).cell? _ = some _ from hx601_1); clear hn601_0; clear hn601_1; replace p601 := eq_true p601; replace q601 := eq_true q601)
       repeat (go_quiet (fail); try go_wp2)
       go_ret
       exact ⟨_, eq_, by (with_reducible repeat (apply Kd.R_drewN)); exact Kd.R_mono (Kd.R_far (p := ⟨gb600, 1, none⟩) (Kd.R_far (p := ⟨gb600, 0, none⟩) (Kd.R_mono HO_5.out (fun k_ hk => (⟨hk, hk.2⟩ : _ ∧ k_ ≠ gb600))) (fun _ hk => hk.2) (.string ((rd_T38 t596 x28_2).f0))) (fun _ hk => hk.2) (.int .i64 ((rd_T38 t596 x28_2).f1))) (fun _ hk => trivial), bel2 GE586.out GE600.out⟩
      rw [if_neg c31] at H; have c31b0 := decide_eq_false c31
      have c31b1 : decide (0 < x5_2.length) = false := decide_eq_false (by omega)
      clear c31
      replace H := ip H; obtain ⟨c44, H⟩ := H; have LMc44 := Aside0.mk c44; clear c44; obtain ⟨y605, hy605⟩ : ∃ y_ : List (S38), y_ = (x5_2 ++ [(⟨(rd_T38 t596 x28_2).f0, (rd_T38 t596 x28_2).f1⟩ : S38)]) := ⟨_, rfl⟩
      rw [← hy605] at H
      have Ny605 := am hy605; clear hy605
      have H' := am H
      clear H
      have p599 : 0 ≤ (x28_2 : Int) := of_decide_eq_true ad
      have q599 : x28_2 < (t596.length : Int) := of_decide_eq_true ad
      obtain ⟨ad599, e599, hx599_0, hx599_1⟩ := at_T38 (Kd.R_reads' HO_26.out).2.2 x28_2 p599 q599; cases e599; replace p599 := eq_true p599; replace q599 := eq_true q599
      go_wp2_with ((with_reducible refine gate_dst (N := 7) rfl ?_); refine bx 7 (cs := #[.string (⟨#[]⟩ : ByteArray), .int .i64 0]) (t := 38) ?_; intro gb600 hg w45 hbox hb; replace HO_5 := am (Kd.R_below (Kd.R_elderB (rq HO_5.out) gb600 (Nat.le_of_eq hg.symm)) hb); replace HO_26 := am (Kd.R_below (Kd.R_elderB (rq HO_26.out) gb600 (Nat.le_of_eq hg.symm)) hb); have BK600 := am (hbox); have GW600 := am ((b66_ : w.heap.size ≤ gb600)); have GE600 := am ((b66_ : w.heap.size ≤ gb600)); replace HB := am (below_step (bel1 GE586.out) hb); have NB586_600 := am ((b46_ : gb586 ≠ gb600)); have NB600_586 := am ((b47_ : gb600 ≠ gb586)); replace BK586 := am (blk_below (bq BK586.out) hb); clear hb hbox hg; have hnb46 := NB600_586.out; have hnc46 := NB586_600.out; have ⟨hcz47_0, hcz47_1, hfz47_0, hfz47_1⟩ := b2c BK600.out; obtain ⟨Ao48, co48, eo48⟩ := Kd.R_slice HO_5.out; subst eo48)
      repeat (go_quiet (fail); try go_wp2_with ((with_reducible refine gate_builtin (b := .append) (xs := #[.tmp 44, .tmp 46]) rfl ?_); at_builtin; refine Kd.R_append k38 (w0 := w) w.heap.size rfl (.tmp 44) (.tmp 46) 29 38 (.agg #[(.string ⟨#[]⟩), (.int .i64 0)]) 24 rfl Tryz.underlying29 info38 rfl (by decide) (by omega) (.slice Ao48 x5_2.length co48) x5_2 (⟨(rd_T38 t596 x28_2).f0, (rd_T38 t596 x28_2).f1⟩ : S38) [.string ((rd_T38 t596 x28_2).f0), .int .i64 ((rd_T38 t596 x28_2).f1)] (fun k_ => some k_ ≠ (.slice (some ad599) t596.length co27 : Value).ownBlock ∧ k_ ≠ gb600) (fun _ => False) rfl b106_ ?aP (fun _ hk => hk.elim) ?aF ?aO ?aB ?aS ?aL ?_; (case aP => exact k38_mkM _ _ _ (⟨(rd_T38 t596 x28_2).f0, (rd_T38 t596 x28_2).f1⟩ : S38)); (case aB => exact (bel2 GE586.out GE600.out)); (case aF => exact (fun k_ hk => ⟨Kd.fresh' (Kd.R_lt (rq ((Kd.R_mono (Kd.R_far (p := ⟨gb600, 1, none⟩) (Kd.R_far (p := ⟨gb600, 0, none⟩) (Kd.R_mono HO_26.out (fun k_ hk => (⟨hk, hk.2⟩ : _ ∧ k_ ≠ gb600))) (fun _ hk => hk.2) (.string ((rd_T38 t596 x28_2).f0))) (fun _ hk => hk.2) (.int .i64 ((rd_T38 t596 x28_2).f1))) (fun _ h_ => h_.1))))) k_ hk, Kd.freshB (g := gb600) (o := .cells #[.string ((rd_T38 t596 x28_2).f0), .int .i64 ((rd_T38 t596 x28_2).f1)] 38 (0, 0)) b5_ k_ hk⟩)); (case aO => exact (rq (Kd.R_mono (Kd.R_far (p := ⟨gb600, 1, none⟩) (Kd.R_far (p := ⟨gb600, 0, none⟩) (Kd.R_mono HO_5.out (fun k_ hk => (⟨hk, hk.2⟩ : _ ∧ k_ ≠ gb600))) (fun _ hk => hk.2) (.string ((rd_T38 t596 x28_2).f0))) (fun _ hk => hk.2) (.int .i64 ((rd_T38 t596 x28_2).f1))) (fun _ hk => ⟨hk.1.1, hk.1.2⟩)))); (case aS => exact (below_size (bel2 GE586.out GE600.out))); (case aL => have := LMc44.out; omega); intro v606 w49 ho hb hg hat; rw [← Ny605.out] at ho; replace HO_26 := am (Kd.R_after (ok := (fun k_ => k_ ≠ gb600)) (rq (Kd.R_mono (Kd.R_far (p := ⟨gb600, 1, none⟩) (Kd.R_far (p := ⟨gb600, 0, none⟩) (Kd.R_mono HO_26.out (fun k_ hk => (⟨hk, hk.2⟩ : _ ∧ k_ ≠ gb600))) (fun _ hk => hk.2) (.string ((rd_T38 t596 x28_2).f0))) (fun _ hk => hk.2) (.int .i64 ((rd_T38 t596 x28_2).f1))) (fun _ hk => ⟨hk.1.2, hk.1.1⟩))) hg hat); replace BK586 := am (blk_grown (g := gb586) (o := .cells #[.slice A0_0 l0_0.length c0_0, .slice A0_1 l0_1.length c0_1] 26 (0, 0)) b25_ hg (Kd.R_ne HO_5.out BK586.out (by decide))); replace BK600 := am (blk_grown (g := gb600) (o := .cells #[.string ((rd_T38 t596 x28_2).f0), .int .i64 ((rd_T38 t596 x28_2).f1)] 38 (0, 0)) b5_ hg (Kd.R_away HO_5.out (fun _ hk => hk.2))); replace HB := am (hb); have HO607 := am (ho); clear HO_5; clear ho hb hg hat))
      go_roundg k2
      case measure => have := HJ2.out; have := HK2.out; omega
      case rel => exact ⟨(y605), (wrap64 (x28_2 + 1)), sq, H', ⟨by have := HJ2.out; have := HK2.out; omega⟩, ⟨rq (Kd.R_mono HO607.out (fun _ hk => hk.1))⟩, ⟨rq (Kd.R_mono HO_26.out (fun _ hk => hk.2))⟩, ⟨bq BK586.out⟩, ⟨bel2 GE586.out GE600.out⟩⟩
     rw [if_neg c28] at H; have c28b0 := decide_eq_false c28; clear c28; obtain rfl := Option.some.inj H; go_wp2
     repeat (go_quiet (fail); try go_wp2)
     go_ret
     exact ⟨_, eq_, b89_, bel1 GE586.out⟩

/-! ### laws_mdGuesses: function 6 -/
def laws_mdGuesses.l0 : Nat → List (S38) → List (S38) → Int → Option (Bool)
 | 0, _, _, _ => none
 | k + 1, x0, x1, x5 => if x5 < (x0.length : Int) then (if 0 ≤ x5 then (if x5 < (x1.length : Int) then (if (!((((rd_T38 x0 x5).f0).toList) == (((rd_T38 x1 x5).f0).toList)) || (!(((rd_T38 x0 x5).f1) == ((rd_T38 x1 x5).f1)))) = true then (some false) else (laws_mdGuesses.l0 k x0 x1 (wrap64 (x5 + 1)))) else (none)) else (none)) else (some true)
def laws_mdGuesses.f (k : Nat) (l0 : List (S38)) (l1 : List (S38)) : Option (Bool) := if (l0.length : Int) = (l1.length : Int) then (laws_mdGuesses.l0 k l0 l1 0) else (some false)
theorem laws_mdGuesses.calls (k : Nat) (A0 : Option Addr) (c0 : Nat) (l0 : List (S38)) (A1 : Option Addr) (c1 : Nat) (l1 : List (S38)) (r : Bool) (w : World) (hr0 : Kd.C k38 w A0 l0.length l0) (hc0 : l0.length ≤ c0) (hr1 : Kd.C k38 w A1 l1.length l1) (hc1 : l1.length ≤ c1) (h : laws_mdGuesses.f k l0 l1 = some r) :
  Calls Tryz.prog 6 #[.slice A0 l0.length c0, .slice A1 l1.length c1] w fun e w' => e = .returned (.bool r) ∧ Drawn0 w w' := by
 have hu38 := Tryz.underlying38; have HR0 := am hr0; have HC0 := am hc0; clear hr0 hc0; have HR1 := am hr1; have HC1 := am hc1; clear hr1 hc1
 have H := h; unfold laws_mdGuesses.f at H
 clear h
 by_cases c3 : (l0.length : Int) = (l1.length : Int)
 ·rw [if_pos c3] at H
  have c3b0 : ((l0.length : Int) == (l1.length : Int)) = true := beq_iff_eq.mpr c3
  have c3b1 : ((l0.length : Int) != (l1.length : Int)) = false := bne_eq_false_iff_eq.mpr c3
  have c3b2 : (l0.length == l1.length) = true := by (simp at c3 ⊢; omega)
  clear c3
  have H' := am H
  clear H; go_enter Tryz.func6, Tryz.ntmps6; go_wp2
  repeat (go_quiet (fail); try go_wp2)
  go_loopg [5] k (fun kq v5 w' => ∃ (x5_1 : Int), v5 = .int .i64 x5_1 ∧ Aside0 (laws_mdGuesses.l0 kq l0 l1 x5_1 = some r) ∧ Aside0 (kq ≤ k) ∧ Drawn0 w w')
  case atStart => exact ⟨(0), sq, H', ⟨Nat.le_refl _⟩, dr⟩
  case round =>
   clear H'; clear c3b0 c3b1 c3b2; obtain ⟨x5_1, rfl, HA, HK1, ⟨m1, rfl⟩⟩ := hrel
   cases gk with
   | zero => exact absurd HA.out (by simp [laws_mdGuesses.l0])
   | succ k1 =>
    have H := HA.out; clear HA; simp only [laws_mdGuesses.l0] at H
    by_cases c4 : x5_1 < (l0.length : Int)
    ·rw [if_pos c4] at H; have c4b0 := decide_eq_true c4; clear c4
     replace H := it H; obtain ⟨c5b0, H⟩ := H; replace H := it H; obtain ⟨c6b0, H⟩ := H
     by_cases c7 : (!((((rd_T38 l0 x5_1).f0).toList) == (((rd_T38 l1 x5_1).f0).toList)) || (!(((rd_T38 l0 x5_1).f1) == ((rd_T38 l1 x5_1).f1)))) = true
     ·rw [if_pos c7] at H
      have c7b0 : (!((((rd_T38 l0 x5_1).f0).toList) == (((rd_T38 l1 x5_1).f0).toList)) || (!(((rd_T38 l0 x5_1).f1) == ((rd_T38 l1 x5_1).f1)))) = true := c7
      clear c7; obtain rfl := Option.some.inj H
      have p608 : 0 ≤ (x5_1 : Int) := of_decide_eq_true ad
      have q608 : x5_1 < (l0.length : Int) := of_decide_eq_true ad
      obtain ⟨ad608, e608, hx608_0, hx608_1⟩ := at_T38 HR0.out x5_1 p608 q608; cases e608; replace p608 := eq_true p608; replace q608 := eq_true q608
      have p609 : 0 ≤ (x5_1 : Int) := of_decide_eq_true ad
      have q609 : x5_1 < (l1.length : Int) := of_decide_eq_true ad
      obtain ⟨ad609, e609, hx609_0, hx609_1⟩ := at_T38 HR1.out x5_1 p609 q609; cases e609
      replace p609 := eq_true p609; replace q609 := eq_true q609; go_wp2
      repeat (go_quiet (fail); try go_wp2)
      go_ret
      exact ⟨sq, dr⟩
     rw [if_neg c7] at H
     have c7b0 : (!((((rd_T38 l0 x5_1).f0).toList) == (((rd_T38 l1 x5_1).f0).toList)) || (!(((rd_T38 l0 x5_1).f1) == ((rd_T38 l1 x5_1).f1)))) = false := by simpa using c7
     clear c7
     have H' := am H
     clear H
     have p608 : 0 ≤ (x5_1 : Int) := of_decide_eq_true ad
     have q608 : x5_1 < (l0.length : Int) := of_decide_eq_true ad
     obtain ⟨ad608, e608, hx608_0, hx608_1⟩ := at_T38 HR0.out x5_1 p608 q608; cases e608; replace p608 := eq_true p608; replace q608 := eq_true q608
     have p609 : 0 ≤ (x5_1 : Int) := of_decide_eq_true ad
     have q609 : x5_1 < (l1.length : Int) := of_decide_eq_true ad
     obtain ⟨ad609, e609, hx609_0, hx609_1⟩ := at_T38 HR1.out x5_1 p609 q609; cases e609
     replace p609 := eq_true p609; replace q609 := eq_true q609; go_wp2
     repeat (go_quiet (fail); try go_wp2)
     go_roundg k1
     case measure => have := HK1.out; omega
     case rel => exact ⟨(wrap64 (x5_1 + 1)), sq, H', ⟨b81_⟩, dr⟩
    rw [if_neg c4] at H; have c4b0 := decide_eq_false c4; clear c4; obtain rfl := Option.some.inj H; go_wp2
    repeat (go_quiet (fail); try go_wp2)
    go_ret
    exact ⟨sq, dr⟩
 rw [if_neg c3] at H
 have c3b0 : ((l0.length : Int) == (l1.length : Int)) = false := beq_eq_false_iff_ne.mpr c3
 have c3b1 : ((l0.length : Int) != (l1.length : Int)) = true := bne_iff_ne.mpr c3
 have c3b2 : (l0.length == l1.length) = false := by (simp at c3 ⊢; omega)
 obtain rfl := Option.some.inj H; go_enter Tryz.func6, Tryz.ntmps6; go_wp2
 repeat (go_quiet (fail); try go_wp2)
 go_ret
 exact ⟨sq, dr⟩

/-! ### spec_l2In: function 22 -/
def spec_l2In.l0 : Nat → List ByteArray → ByteArray → Int → Option (Bool)
 | 0, _, _, _ => none
 | k + 1, x0, x1, x5 => if x5 < (x0.length : Int) then (if 0 ≤ x5 then (if (rdOf ByteArray.empty x0 x5).toList = x1.toList then (some true) else (spec_l2In.l0 k x0 x1 (wrap64 (x5 + 1)))) else (none)) else (some false)
def spec_l2In.f (k : Nat) (l0 : List ByteArray) (a1 : ByteArray) : Option (Bool) := spec_l2In.l0 k l0 a1 0
theorem spec_l2In.calls (k : Nat) (A0 : Option Addr) (c0 : Nat) (l0 : List ByteArray) (a1 : ByteArray) (r : Bool) (w : World) (hr0 : Kd.C Kd.string w A0 l0.length l0) (hc0 : l0.length ≤ c0) (h : spec_l2In.f k l0 a1 = some r) :
  Calls Tryz.prog 22 #[.slice A0 l0.length c0, .string a1] w fun e w' => e = .returned (.bool r) ∧ Drawn0 w w' := by
 have HR0 := am hr0; have HC0 := am hc0; clear hr0 hc0
 have H := h; unfold spec_l2In.f at H
 clear h
 have H' := am H
 clear H; go_enter Tryz.func22, Tryz.ntmps22; go_wp2
 go_loopg [5] k (fun kq v5 w' => ∃ (x5_1 : Int), v5 = .int .i64 x5_1 ∧ Aside0 (spec_l2In.l0 kq l0 a1 x5_1 = some r) ∧ Aside0 (kq ≤ k) ∧ Drawn0 w w')
 case atStart => exact ⟨(0), sq, H', ⟨Nat.le_refl _⟩, dr⟩
 case round =>
  clear H'; obtain ⟨x5_1, rfl, HA, HK1, ⟨m1, rfl⟩⟩ := hrel
  cases gk with
  | zero => exact absurd HA.out (by simp [spec_l2In.l0])
  | succ k1 =>
   have H := HA.out; clear HA; simp only [spec_l2In.l0] at H
   by_cases c3 : x5_1 < (l0.length : Int)
   ·rw [if_pos c3] at H; have c3b0 := decide_eq_true c3; clear c3
    replace H := it H; obtain ⟨c4b0, H⟩ := H
    by_cases c5 : (rdOf ByteArray.empty l0 x5_1).toList = a1.toList
    ·rw [if_pos c5] at H
     have c5b0 : ((rdOf ByteArray.empty l0 x5_1).toList == a1.toList) = true := beq_iff_eq.mpr c5
     have c5b1 : ((rdOf ByteArray.empty l0 x5_1).toList != a1.toList) = false := bne_eq_false_iff_eq.mpr c5
     clear c5; obtain rfl := Option.some.inj H
     have p610 : 0 ≤ (x5_1 : Int) := of_decide_eq_true ad
     have q610 : x5_1 < (l0.length : Int) := of_decide_eq_true ad
     obtain ⟨ad610, e610, hx610_0⟩ := Kd.at_string HR0.out x5_1 p610 q610; cases e610
     replace p610 := eq_true p610; replace q610 := eq_true q610; go_wp2; go_ret
     exact ⟨sq, dr⟩
    rw [if_neg c5] at H
    have c5b0 : ((rdOf ByteArray.empty l0 x5_1).toList == a1.toList) = false := beq_eq_false_iff_ne.mpr c5
    have c5b1 : ((rdOf ByteArray.empty l0 x5_1).toList != a1.toList) = true := bne_iff_ne.mpr c5
    have H' := am H
    clear H
    have p610 : 0 ≤ (x5_1 : Int) := of_decide_eq_true ad
    have q610 : x5_1 < (l0.length : Int) := of_decide_eq_true ad
    obtain ⟨ad610, e610, hx610_0⟩ := Kd.at_string HR0.out x5_1 p610 q610; cases e610
    replace p610 := eq_true p610; replace q610 := eq_true q610; go_wp2
    go_roundg k1
    case measure => have := HK1.out; omega
    case rel => exact ⟨(wrap64 (x5_1 + 1)), sq, H', ⟨b81_⟩, dr⟩
   rw [if_neg c3] at H; have c3b0 := decide_eq_false c3; clear c3; obtain rfl := Option.some.inj H; go_wp2; go_ret
   exact ⟨sq, dr⟩
end Go.Proofs.YtdfnijaacnlfaaaGreat.QFnBookGuesses
