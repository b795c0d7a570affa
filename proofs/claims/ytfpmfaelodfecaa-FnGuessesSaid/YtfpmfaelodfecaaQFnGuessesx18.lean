import Derived.Test.YtfpmfaelodfecaaQFnGuessesx0
import Derived.Test.YtfpmfaelodfecaaQFnGuessesx6
import Derived.Test.YtfpmfaelodfecaaQFnGuessesx7
import Derived.Test.YtfpmfaelodfecaaQFnGuessesx8
import Derived.Test.YtfpmfaelodfecaaQFnGuessesx16
import Derived.Test.YtfpmfaelodfecaaVMSh2
namespace Go.Proofs.Ytfpmfaelodfecaa.QFnGuesses
open Go.RowKit Go.Proofs.YtfpmfaelodfecaaW.PrintWords Go.Proofs.YtfpmfaelodfecaaW.PrintLast Go.Proofs.YtfpmfaelodfecaaW.PrintMore Go.Proofs.Ytfpmfaelodfecaa.Sh
attribute [local go_sem] max2_int min2_int max_two min_two max_three min_three max_four min_four
set_option linter.unusedVariables false
set_option linter.unusedSimpArgs false
-- shrunk

/-! ### laws_FnGuesses: function 4 -/
mutual
def laws_FnGuesses.j0 : Nat → List ByteArray → ByteArray → Int → List (S36) → Bool → Option (Bool)
 | 0, _, _, _, _, _ => none
 | k + 1, x3, x4, x5, x6, x35 => if x35 = true then (some false) else (laws_FnGuesses.l0 k x3 x4 x5 x6 0)
def laws_FnGuesses.l0 : Nat → List ByteArray → ByteArray → Int → List (S36) → Int → Option (Bool)
 | 0, _, _, _, _, _ => none
 | k + 1, x3, x4, x5, x6, x7 => if x7 < (x6.length : Int) then (if 0 ≤ x7 then ((laws_mdHas.f k x3 ((rd_T36 x6 x7).f0)).bind fun t528 => (if t528 = true then ((impl_Far.f k ((rd_T36 x6 x7).f0) x4).bind fun t530 => (if t530 = ((rd_T36 x6 x7).f1) then (if ((rd_T36 x6 x7).f1) > x5 then (laws_FnGuesses.j2 k x3 x4 x5 x6 x7 true) else (if x7 > 0 then (if 0 ≤ (wrap64 (x7 - 1)) then (if (wrap64 (x7 - 1)) < (x6.length : Int) then (if ((rd_T36 x6 (wrap64 (x7 - 1))).f1) > ((rd_T36 x6 x7).f1) then (laws_FnGuesses.j2 k x3 x4 x5 x6 x7 true) else (if ((rd_T36 x6 (wrap64 (x7 - 1))).f1) = ((rd_T36 x6 x7).f1) then (laws_FnGuesses.j2 k x3 x4 x5 x6 x7 (!(Op.bytesLess (((rd_T36 x6 (wrap64 (x7 - 1))).f0).toList) (((rd_T36 x6 x7).f0).toList)))) else (laws_FnGuesses.j2 k x3 x4 x5 x6 x7 false))) else (none)) else (none)) else (laws_FnGuesses.j2 k x3 x4 x5 x6 x7 false))) else (laws_FnGuesses.j2 k x3 x4 x5 x6 x7 true))) else (laws_FnGuesses.j2 k x3 x4 x5 x6 x7 true))) else (none)) else (if (x6.length : Int) = 10 then (laws_FnGuesses.j3 k x3 x4 x5 x6 true) else ((spec_WordOk.f k x4).bind fun t539 => (laws_FnGuesses.j3 k x3 x4 x5 x6 (!t539))))
def laws_FnGuesses.j2 : Nat → List ByteArray → ByteArray → Int → List (S36) → Int → Bool → Option (Bool)
 | 0, _, _, _, _, _, _ => none
 | k + 1, x3, x4, x5, x6, x7, x119 => if x119 = true then (some false) else (laws_FnGuesses.l0 k x3 x4 x5 x6 (wrap64 (x7 + 1)))
def laws_FnGuesses.j3 : Nat → List ByteArray → ByteArray → Int → List (S36) → Bool → Option (Bool)
 | 0, _, _, _, _, _ => none
 | k + 1, x3, x4, x5, x6, x127 => if x127 = true then (some true) else (laws_FnGuesses.l1 k x3 x4 x5 x6 0 0)
def laws_FnGuesses.l1 : Nat → List ByteArray → ByteArray → Int → List (S36) → Int → Int → Option (Bool)
 | 0, _, _, _, _, _, _ => none
 | k + 1, x3, x4, x5, x6, x8, x9 => if x9 < (x3.length : Int) then (if 0 ≤ x9 then ((impl_Far.f k (rdOf ByteArray.empty x3 x9) x4).bind fun t541 => (if t541 ≥ 0 then (laws_FnGuesses.j5 k x3 x4 x5 x6 x8 x9 t541 (decide (t541 ≤ x5))) else (laws_FnGuesses.j5 k x3 x4 x5 x6 x8 x9 t541 false))) else (none)) else (some (x8 == (x6.length : Int)))
def laws_FnGuesses.j5 : Nat → List ByteArray → ByteArray → Int → List (S36) → Int → Int → Int → Bool → Option (Bool)
 | 0, _, _, _, _, _, _, _, _ => none
 | k + 1, x3, x4, x5, x6, x8, x9, x10, x146 => if x146 = true then (laws_FnGuesses.j6 k x3 x4 x5 x6 (wrap64 (x8 + 1)) x9 x10) else (laws_FnGuesses.j6 k x3 x4 x5 x6 x8 x9 x10)
def laws_FnGuesses.j6 : Nat → List ByteArray → ByteArray → Int → List (S36) → Int → Int → Int → Option (Bool)
 | 0, _, _, _, _, _, _, _ => none
 | k + 1, x3, x4, x5, x6, x8, x9, x10 => if x9 > 0 then (if 0 ≤ (wrap64 (x9 - 1)) then (if (wrap64 (x9 - 1)) < (x3.length : Int) then (if 0 ≤ x9 then (if x9 < (x3.length : Int) then (if ((Op.bytesLess ((rdOf ByteArray.empty x3 (wrap64 (x9 - 1))).toList) ((rdOf ByteArray.empty x3 x9).toList)) = true) then (laws_FnGuesses.j7 k x3 x4 x5 x6 x8 x9 (decide (x10 < 0))) else (laws_FnGuesses.j7 k x3 x4 x5 x6 x8 x9 true)) else (none)) else (none)) else (none)) else (none)) else (laws_FnGuesses.j7 k x3 x4 x5 x6 x8 x9 (decide (x10 < 0)))
def laws_FnGuesses.j7 : Nat → List ByteArray → ByteArray → Int → List (S36) → Int → Int → Bool → Option (Bool)
 | 0, _, _, _, _, _, _, _ => none
 | k + 1, x3, x4, x5, x6, x8, x9, x166 => if x166 = true then (some true) else (laws_FnGuesses.l1 k x3 x4 x5 x6 x8 (wrap64 (x9 + 1)))
end
def laws_FnGuesses.f (k : Nat) (l0 : List Int) : Option (Bool) := if (l0.length : Int) > 1048576 then (some true) else ((spec_DrawGuesses.f k l0).bind fun bt515 => ((impl_Guesses.f k bt515.1 bt515.2.1 bt515.2.2).bind fun t520 => ((spec_Guesses.f k bt515.1 bt515.2.1 bt515.2.2).bind fun t523 => ((laws_mdGuesses.f k t520 t523).bind fun t526 => (if t526 = true then (laws_FnGuesses.j0 k bt515.1 bt515.2.1 bt515.2.2 t520 (decide ((t520.length : Int) > 10))) else (laws_FnGuesses.j0 k bt515.1 bt515.2.1 bt515.2.2 t520 true))))))
def laws_FnGuesses.T10 : Bool × List (List Nat × List Nat) := (true, [([], []), ([], []), ([], []), ([1, 2], [1, 2]), ([3], [3]), ([4], [4]), ([0, 5], [0, 5]), ([6], [6]), ([7, 6], [7]), ([8], [8]), ([8], [8]), ([9, 10, 8], [8, 9, 10]), ([11, 8], [8, 11]), ([12, 8], [8, 12]), ([8], [8]), ([13, 14, 8, 8], [8, 13, 14]), ([8], [8]), ([8], [8]), ([16, 17, 8], [8, 16, 17]), ([18, 8], [8, 18]), ([19, 8], [8, 19]), ([15, 20, 8], [8, 15, 20]), ([8, 21], [8, 21]), ([22, 15], [22]), ([23], [23]), ([23], [23]), ([24, 25, 23], [23, 24, 25]), ([26, 23], [23, 26]), ([27, 23], [23, 27]), ([23], [23]), ([28, 29, 23], [23, 28, 29]), ([23, 30], [23, 30]), ([31, 23], [31]), ([32], [32]), ([33, 32], [32, 33]), ([34, 32, 32], [32, 34]), ([35], [35]), ([35], [35]), ([37, 35], [35, 37]), ([36, 38, 35], [35, 36, 38]), ([39, 35], [35, 39]), ([40, 35], [35, 40]), ([35], [35]), ([35], [35]), ([42, 43, 35], [35, 42, 43]), ([44, 35], [35, 44]), ([45, 35], [35, 45]), ([41, 46, 35], [35, 41, 46]), ([47, 35, 35], [35, 47]), ([48], [48]), ([48], [48]), ([50, 48], [48, 50]), ([49, 51, 48], [48, 49, 51]), ([52, 48], [48, 52]), ([53, 48], [48, 53]), ([48], [48]), ([48], [48]), ([55, 56, 48], [48, 55, 56]), ([57, 48], [48, 57]), ([58, 48], [48, 58]), ([54, 59, 48], [48, 54, 59]), ([60, 48, 48], [48, 60]), ([61], [61]), ([61], [61]), ([63, 61], [61, 63]), ([62, 64, 61], [61, 62, 64]), ([65, 61], [61, 65]), ([66, 61], [61, 66]), ([61], [61]), ([61], [61]), ([68, 69, 61], [61, 68, 69]), ([70, 61], [61, 70]), ([71, 61], [61, 71]), ([67, 72, 61], [61, 67, 72]), ([61, 73, 48], [48, 61, 73]), ([48, 74, 35], [35, 48, 74]), ([35, 75, 32], [32, 35, 75]), ([32, 76], [32, 76])])
def laws_FnGuesses.B10 : List Nat := [0, 0, 0, 6, 14, 30, 63, 127, 255, 511, 511, 2047, 4095, 8191, 511, 32767, 511, 511, 197119, 459263, 983551, 2097151, 4194303, 8388607, 16777215, 16777215, 67108863, 134217727, 268435455, 16777215, 1073741823, 2147483647, 4294967295, 8589934591, 17179869183, 34359738367, 68719476735, 68719476735, 206158430207, 549755813887, 1099511627775, 2199023255551, 68719476735, 68719476735, 13262859010047, 30855045054463, 66039417143295, 140737488355327, 281474976710655, 562949953421311, 562949953421311, 1688849860263935, 4503599627370495, 9007199254740991, 18014398509481983, 562949953421311, 562949953421311, 108649341010313215, 252764529086169087, 540994905237880831, 1152921504606846975, 2305843009213693951, 4611686018427387903, 4611686018427387903, 13835058055282163711, 36893488147419103231, 73786976294838206463, 147573952589676412927, 4611686018427387903, 4611686018427387903, 890055401556485865471, 2070647022273897168895, 4431830263708719775743, 9444732965739290427391, 18889465931478580854783, 37778931862957161709567, 75557863725914323419135, 151115727451828646838271]
theorem laws_FnGuesses.tab10 : rtab .any (opsOf Try.f4 10) = laws_FnGuesses.T10 := by kernel_rfl
theorem laws_FnGuesses.bits10 : waitsOk laws_FnGuesses.T10.2 laws_FnGuesses.B10 = true := by kernel_rfl
def laws_FnGuesses.T21 : Bool × List (List Nat × List Nat) := (true, [([], []), ([0], [0]), ([1], [1]), ([2], [2]), ([2], [2]), ([4, 2], [2, 4]), ([3, 5, 2], [2, 3, 5]), ([6, 2], [2, 6]), ([2], [2]), ([2], [2]), ([8, 9, 2], [2, 8, 9]), ([10, 2], [2, 10]), ([7, 11, 2], [2, 7, 11]), ([2, 12], [2, 12]), ([13, 2], [13]), ([14], [14]), ([15, 14], [14, 15]), ([14, 16], [14, 16])])
def laws_FnGuesses.B21 : List Nat := [0, 1, 3, 7, 7, 23, 63, 127, 7, 7, 775, 1799, 4095, 8191, 16383, 32767, 65535, 131071]
theorem laws_FnGuesses.tab21 : rtab .any (opsOf Try.f4 21) = laws_FnGuesses.T21 := by kernel_rfl
theorem laws_FnGuesses.bits21 : waitsOk laws_FnGuesses.T21.2 laws_FnGuesses.B21 = true := by kernel_rfl
set_option maxHeartbeats 8000000 in
set_option maxRecDepth 100000 in
theorem laws_FnGuesses.calls (k : Nat) (A0 : Option Addr) (c0 : Nat) (l0 : List Int) (r : Bool) (w : World) (hr0 : Kd.C (Kd.int .u8) w A0 l0.length l0) (hc0 : l0.length ≤ c0) (h : laws_FnGuesses.f k l0 = some r) :
  Calls Try.prog 4 #[.slice A0 l0.length c0] w fun e w' => e = .returned (.bool r) ∧ Below w.heap.size w w' := by
 have HR0 := am hr0
 have HC0 := am hc0
 clear hr0 hc0
 have HB := am (Below.refl w.heap.size w)
 have H : (if (l0.length : Int) > 1048576 then (some true) else ((spec_DrawGuesses.f k l0).bind fun bt515 => ((impl_Guesses.f k bt515.1 bt515.2.1 bt515.2.2).bind fun t520 => ((spec_Guesses.f k bt515.1 bt515.2.1 bt515.2.2).bind fun t523 => ((laws_mdGuesses.f k t520 t523).bind fun t526 => (if t526 = true then (laws_FnGuesses.j0 k bt515.1 bt515.2.1 bt515.2.2 t520 (decide ((t520.length : Int) > 10))) else (laws_FnGuesses.j0 k bt515.1 bt515.2.1 bt515.2.2 t520 true))))))) = some r := h
 clear h
 by_cases c2 : (l0.length : Int) > 1048576
 ·rw [if_pos c2] at H
  have c2b0 := decide_eq_true c2
  have c2b1 : decide (1048576 < l0.length) = true := decide_eq_true (by omega)
  clear c2
  obtain rfl := Option.some.inj H
  go_enter Try.func4, Try.ntmps4
  go_wp2
  go_ret
  exact ⟨eq_, bel⟩
 rw [if_neg c2] at H
 have c2b0 := decide_eq_false c2
 have c2b1 : decide (1048576 < l0.length) = false := decide_eq_false (by omega)
 clear c2
 replace H := bs H
 obtain ⟨⟨t515, t516, t517⟩, A30, H⟩ := H
 replace H : ((impl_Guesses.f k t515 t516 t517).bind fun t520 => ((spec_Guesses.f k t515 t516 t517).bind fun t523 => ((laws_mdGuesses.f k t520 t523).bind fun t526 => (if t526 = true then (laws_FnGuesses.j0 k t515 t516 t517 t520 (decide ((t520.length : Int) > 10))) else (laws_FnGuesses.j0 k t515 t516 t517 t520 true))))) = some r := H
 have A3 := Aside0.mk A30
 clear A30
 replace H := bs H
 obtain ⟨t520, A40, H⟩ := H
 replace H : ((spec_Guesses.f k t515 t516 t517).bind fun t523 => ((laws_mdGuesses.f k t520 t523).bind fun t526 => (if t526 = true then (laws_FnGuesses.j0 k t515 t516 t517 t520 (decide ((t520.length : Int) > 10))) else (laws_FnGuesses.j0 k t515 t516 t517 t520 true)))) = some r := H
 have A4 := Aside0.mk A40
 clear A40
 have HC5 := am H
 clear H
 as_aux_lemma =>
  go_enter Try.func4, Try.ntmps4
  go_upto_region 5 with (first | ((with_reducible refine gate_callee (f := 20) rfl ?_); refine goesL_ (some 16) rfl rfl Try.func20 (by kernel_rfl) rfl #[.slice A0 l0.length c0] rfl mq ?_; (with_reducible refine (spec_DrawGuesses.calls k _ _ l0 t515 t516 t517 _ ?side1 ?side2 A3.out).mono ?_); (case side1 => repeat (first | exact HR0.out | (with_reducible refine Kd.C_alloc ?_ _) | (with_reducible refine Kd.C_drewN ?_ _) | (with_reducible refine Kd.C_drew ?_))); (case side2 => exact HC0.out); rintro e w6 ⟨v518, rfl, ho0, hb⟩; refine ⟨_, rfl, ?_⟩; have HO519 := am (Kd.R_lower ho0 (below_size bel)); replace HB := am (below_step bel hb); (try clear hb); (try clear hb2); (try clear hk); (try clear hi); (try clear ho0); obtain ⟨Ao7, co7, eo7⟩ := Kd.R_slice HO519.out; subst eo7) | ((with_reducible refine gate_callee (f := 14) rfl ?_); refine goesL_ (some 23) rfl rfl Try.func14 (by kernel_rfl) rfl #[.slice Ao7 t515.length co7, .string t516, .int .i64 t517] rfl mq ?_; (with_reducible refine (impl_Guesses.calls k _ _ t515 t516 t517 t520 _ ?side1 ?side2 A4.out).mono ?_); (case side1 => exact cq (Kd.R_reads' HO519.out).2.2); (case side2 => exact (Kd.R_reads' HO519.out).2.1); rintro e w8 ⟨v521, rfl, ho0, hb⟩; refine ⟨_, rfl, ?_⟩; replace HO519 := am (Kd.R_below (rq HO519.out) hb); have HO522 := am (Kd.R_lower ho0 (below_size bel)); replace HB := am (below_step bel hb); (try clear hb); (try clear hb2); (try clear hk); (try clear hi); (try clear ho0)))
  (try simp only [Act.put, List.setIfInBounds_toArray, List.set_cons_zero, List.set_cons_succ])
  go_cut [35] (fun v35 wc => ∃ (kq : Nat) (x35_4 : Bool), v35 = .bool x35_4 ∧ Aside0 (laws_FnGuesses.j0 kq t515 t516 t517 t520 x35_4 = some r) ∧ Aside0 (kq ≤ k) ∧ Aside0 (Kd.R Kd.string 9 wc w.heap.size (fun _ => True) (.slice Ao7 t515.length co7) t515) ∧ Aside0 (Kd.R k36 36 wc w.heap.size (fun _ => True) v521 t520) ∧ Aside0 (Below w.heap.size w wc))
  case first =>
   have H := HC5.out
   clear HC5
   replace H := bs H
   obtain ⟨t523, A90, H⟩ := H
   replace H : ((laws_mdGuesses.f k t520 t523).bind fun t526 => (if t526 = true then (laws_FnGuesses.j0 k t515 t516 t517 t520 (decide ((t520.length : Int) > 10))) else (laws_FnGuesses.j0 k t515 t516 t517 t520 true))) = some r := H
   have A9 := Aside0.mk A90
   clear A90
   replace H := bs H
   obtain ⟨t526, A100, H⟩ := H
   replace H : (if t526 = true then (laws_FnGuesses.j0 k t515 t516 t517 t520 (decide ((t520.length : Int) > 10))) else (laws_FnGuesses.j0 k t515 t516 t517 t520 true)) = some r := H
   have A10 := Aside0.mk A100
   clear A100
   by_cases c11 : t526 = true
   ·subst c11
    have H1 : (laws_FnGuesses.j0 k t515 t516 t517 t520 (decide ((t520.length : Int) > 10))) = some r := b19_
    replace H := H1
    clear H1
    have H' := am H
    clear H
    go_wp2_with (first | ((with_reducible refine gate_callee (f := 12) rfl ?_); refine goesL_ (some 28) rfl rfl Try.func12 (by kernel_rfl) rfl #[.slice Ao7 t515.length co7, .string t516, .int .i64 t517] rfl mq ?_; (with_reducible refine (spec_Guesses.calls k _ _ t515 t516 t517 t523 _ ?side1 ?side2 A9.out).mono ?_); (case side1 => exact cq (Kd.R_reads' HO519.out).2.2); (case side2 => exact (Kd.R_reads' HO519.out).2.1); rintro e w12 ⟨v524, rfl, ho0, hb⟩; refine ⟨_, rfl, ?_⟩; replace HO519 := am (Kd.R_below (rq HO519.out) hb); have HO525 := am (Kd.R_lower (Kd.R_new' ho0 (Kd.R_lt (rq HO522.out))) (below_size bel)); replace HO522 := am (Kd.R_elder' (rq HO522.out) (Kd.R_base ho0) hb); replace HB := am (below_step bel hb); (try clear hb); (try clear hb2); (try clear hk); (try clear hi); (try clear ho0); obtain ⟨Ao13, co13, eo13⟩ := Kd.R_slice HO522.out; subst eo13; obtain ⟨Ao14, co14, eo14⟩ := Kd.R_slice HO525.out; subst eo14) | ((with_reducible refine gate_callee (f := 21) rfl ?_); refine goesL_ (some 29) rfl rfl Try.func21 (by kernel_rfl) rfl #[.slice Ao13 t520.length co13, .slice Ao14 t523.length co14] rfl mq ?_; (with_reducible refine (laws_mdGuesses.calls k _ _ t520 _ _ t523 true _ ?side1 ?side2 ?side3 ?side4 A10.out).mono ?_); (case side1 => exact cq (Kd.R_reads' HO522.out).2.2); (case side2 => exact (Kd.R_reads' HO522.out).2.1); (case side3 => exact cq (Kd.R_reads' HO525.out).2.2); (case side4 => exact (Kd.R_reads' HO525.out).2.1); rintro e w' ⟨rfl, ⟨nd, rfl⟩⟩; refine ⟨_, rfl, ?_⟩))
    go_meet
    case rel => exact ⟨_, (decide ((t520.length : Int) > 10)), sq, H', ⟨b46_⟩, ⟨rq HO519.out⟩, ⟨rq (Kd.R_mono HO522.out (fun _ hk => trivial))⟩, ⟨bel⟩⟩
   replace c11 := Bool.eq_false_iff.mpr c11
   subst c11
   have H1 : (laws_FnGuesses.j0 k t515 t516 t517 t520 true) = some r := b7_
   replace H := H1
   clear H1
   have H' := am H
   clear H
   go_wp2_with (first | ((with_reducible refine gate_callee (f := 12) rfl ?_); refine goesL_ (some 28) rfl rfl Try.func12 (by kernel_rfl) rfl #[.slice Ao7 t515.length co7, .string t516, .int .i64 t517] rfl mq ?_; (with_reducible refine (spec_Guesses.calls k _ _ t515 t516 t517 t523 _ ?side1 ?side2 A9.out).mono ?_); (case side1 => exact cq (Kd.R_reads' HO519.out).2.2); (case side2 => exact (Kd.R_reads' HO519.out).2.1); rintro e w15 ⟨v524, rfl, ho0, hb⟩; refine ⟨_, rfl, ?_⟩; replace HO519 := am (Kd.R_below (rq HO519.out) hb); have HO525 := am (Kd.R_lower (Kd.R_new' ho0 (Kd.R_lt (rq HO522.out))) (below_size bel)); replace HO522 := am (Kd.R_elder' (rq HO522.out) (Kd.R_base ho0) hb); replace HB := am (below_step bel hb); (try clear hb); (try clear hb2); (try clear hk); (try clear hi); (try clear ho0); obtain ⟨Ao16, co16, eo16⟩ := Kd.R_slice HO522.out; subst eo16; obtain ⟨Ao17, co17, eo17⟩ := Kd.R_slice HO525.out; subst eo17) | ((with_reducible refine gate_callee (f := 21) rfl ?_); refine goesL_ (some 29) rfl rfl Try.func21 (by kernel_rfl) rfl #[.slice Ao16 t520.length co16, .slice Ao17 t523.length co17] rfl mq ?_; (with_reducible refine (laws_mdGuesses.calls k _ _ t520 _ _ t523 false _ ?side1 ?side2 ?side3 ?side4 A10.out).mono ?_); (case side1 => exact cq (Kd.R_reads' HO522.out).2.2); (case side2 => exact (Kd.R_reads' HO522.out).2.1); (case side3 => exact cq (Kd.R_reads' HO525.out).2.2); (case side4 => exact (Kd.R_reads' HO525.out).2.1); rintro e w' ⟨rfl, ⟨nd, rfl⟩⟩; refine ⟨_, rfl, ?_⟩))
   go_meet
   case rel => exact ⟨_, (true), sq, H', ⟨b46_⟩, ⟨rq HO519.out⟩, ⟨rq (Kd.R_mono HO522.out (fun _ hk => trivial))⟩, ⟨bel⟩⟩
  case rest =>
   clear HC5
   (try clear c1)
   (try clear c2)
   (try clear c2b0)
   (try clear c2b1)
   (try clear p2)
   (try clear c4)
   (try clear c11)
   (try clear c12)
   (try clear c14)
   as_aux_lemma =>
    obtain ⟨kq, x35_4, rfl, HA, HJ4, HO_3, HO_6, HB⟩ := hcut
    cases kq with
    | zero => exact absurd HA.out (by simp [laws_FnGuesses.j0])
    | succ kj4 =>
     have H := HA.out
     clear HA
     simp only [laws_FnGuesses.j0] at H
     by_cases c18 : x35_4 = true
     ·subst c18
      have H1 : (some false) = some r := b19_
      replace H := H1
      clear H1
      obtain rfl := Option.some.inj H
      go_wp2
      go_ret
      exact ⟨eq_, bel⟩
     replace c18 := Bool.eq_false_iff.mpr c18
     subst c18
     have H1 : (laws_FnGuesses.l0 kj4 t515 t516 t517 t520 0) = some r := b7_
     replace H := H1
     clear H1
     have H' := am H
     clear H
     as_aux_lemma =>
      go_wp2
      go_loopg [7] kj4 (fun kq v7 w' => ∃ (x7_2 : Int), v7 = .int .i64 x7_2 ∧ Aside0 (laws_FnGuesses.l0 kq t515 t516 t517 t520 x7_2 = some r) ∧ Aside0 (kq ≤ kj4) ∧ Aside0 (Kd.R Kd.string 9 w' w.heap.size (fun _ => True) (.slice Ao7 t515.length co7) t515) ∧ Aside0 (Kd.R k36 36 w' w.heap.size (fun _ => True) v521 t520) ∧ Aside0 (Below w.heap.size w w'))
      case atStart => exact ⟨(0), sq, H', ⟨Nat.le_refl _⟩, ⟨rq HO_3.out⟩, ⟨rq HO_6.out⟩, ⟨bel⟩⟩
      case round =>
       clear H'
       (try clear c1)
       (try clear c2)
       (try clear c2b0)
       (try clear c2b1)
       (try clear p2)
       (try clear c4)
       (try clear c11)
       (try clear c12)
       (try clear c14)
       (try clear c18)
       as_aux_lemma =>
        (try clear p2)
        obtain ⟨x7_2, rfl, HA, HK2, HO_3, HO_6, HB⟩ := hrel
        cases gk with
        | zero => exact absurd HA.out (by simp [laws_FnGuesses.l0])
        | succ k2 =>
         have H := HA.out
         clear HA
         simp only [laws_FnGuesses.l0] at H
         by_cases c19 : x7_2 < (t520.length : Int)
         ·rw [if_pos c19] at H
          have c19b0 := decide_eq_true c19
          clear c19
          have HC20 := am H
          clear H
          as_aux_lemma =>
           obtain ⟨Ao21, co21, eo21⟩ := Kd.R_slice HO_6.out
           subst eo21
           go_upto_region 10 with (fail)
           go_cut [119] (fun v119 wc => ∃ (kq : Nat) (x119_19 : Bool), v119 = .bool x119_19 ∧ Aside0 (laws_FnGuesses.j2 kq t515 t516 t517 t520 x7_2 x119_19 = some r) ∧ Aside0 (kq ≤ k2) ∧ Aside0 (Kd.R Kd.string 9 wc w.heap.size (fun _ => True) (.slice Ao7 t515.length co7) t515) ∧ Aside0 (Kd.R k36 36 wc w.heap.size (fun _ => True) (.slice Ao21 t520.length co21) t520) ∧ Aside0 (Below w.heap.size w wc))
           case first =>
            have H := HC20.out
            clear HC20
            replace H := it H
            obtain ⟨c22b0, H⟩ := H
            (first | rw [c22b0] | (simp only [i64_w, i32_w]; rw [c22b0]) | skip)
            replace H := bs H
            obtain ⟨t528, A230, H⟩ := H
            replace H : (if t528 = true then ((impl_Far.f k2 ((rd_T36 t520 x7_2).f0) t516).bind fun t530 => (if t530 = ((rd_T36 t520 x7_2).f1) then (if ((rd_T36 t520 x7_2).f1) > t517 then (laws_FnGuesses.j2 k2 t515 t516 t517 t520 x7_2 true) else (if x7_2 > 0 then (if 0 ≤ (wrap64 (x7_2 - 1)) then (if (wrap64 (x7_2 - 1)) < (t520.length : Int) then (if ((rd_T36 t520 (wrap64 (x7_2 - 1))).f1) > ((rd_T36 t520 x7_2).f1) then (laws_FnGuesses.j2 k2 t515 t516 t517 t520 x7_2 true) else (if ((rd_T36 t520 (wrap64 (x7_2 - 1))).f1) = ((rd_T36 t520 x7_2).f1) then (laws_FnGuesses.j2 k2 t515 t516 t517 t520 x7_2 (!(Op.bytesLess (((rd_T36 t520 (wrap64 (x7_2 - 1))).f0).toList) (((rd_T36 t520 x7_2).f0).toList)))) else (laws_FnGuesses.j2 k2 t515 t516 t517 t520 x7_2 false))) else (none)) else (none)) else (laws_FnGuesses.j2 k2 t515 t516 t517 t520 x7_2 false))) else (laws_FnGuesses.j2 k2 t515 t516 t517 t520 x7_2 true))) else (laws_FnGuesses.j2 k2 t515 t516 t517 t520 x7_2 true)) = some r := H
            have A23 := Aside0.mk A230
            clear A230
            by_cases c24 : t528 = true
            ·subst c24
             have H1 : ((impl_Far.f k2 ((rd_T36 t520 x7_2).f0) t516).bind fun t530 => (if t530 = ((rd_T36 t520 x7_2).f1) then (if ((rd_T36 t520 x7_2).f1) > t517 then (laws_FnGuesses.j2 k2 t515 t516 t517 t520 x7_2 true) else (if x7_2 > 0 then (if 0 ≤ (wrap64 (x7_2 - 1)) then (if (wrap64 (x7_2 - 1)) < (t520.length : Int) then (if ((rd_T36 t520 (wrap64 (x7_2 - 1))).f1) > ((rd_T36 t520 x7_2).f1) then (laws_FnGuesses.j2 k2 t515 t516 t517 t520 x7_2 true) else (if ((rd_T36 t520 (wrap64 (x7_2 - 1))).f1) = ((rd_T36 t520 x7_2).f1) then (laws_FnGuesses.j2 k2 t515 t516 t517 t520 x7_2 (!(Op.bytesLess (((rd_T36 t520 (wrap64 (x7_2 - 1))).f0).toList) (((rd_T36 t520 x7_2).f0).toList)))) else (laws_FnGuesses.j2 k2 t515 t516 t517 t520 x7_2 false))) else (none)) else (none)) else (laws_FnGuesses.j2 k2 t515 t516 t517 t520 x7_2 false))) else (laws_FnGuesses.j2 k2 t515 t516 t517 t520 x7_2 true))) = some r := b19_
             replace H := H1
             clear H1
             replace H := bs H
             obtain ⟨t530, A250, H⟩ := H
             replace H : (if t530 = ((rd_T36 t520 x7_2).f1) then (if ((rd_T36 t520 x7_2).f1) > t517 then (laws_FnGuesses.j2 k2 t515 t516 t517 t520 x7_2 true) else (if x7_2 > 0 then (if 0 ≤ (wrap64 (x7_2 - 1)) then (if (wrap64 (x7_2 - 1)) < (t520.length : Int) then (if ((rd_T36 t520 (wrap64 (x7_2 - 1))).f1) > ((rd_T36 t520 x7_2).f1) then (laws_FnGuesses.j2 k2 t515 t516 t517 t520 x7_2 true) else (if ((rd_T36 t520 (wrap64 (x7_2 - 1))).f1) = ((rd_T36 t520 x7_2).f1) then (laws_FnGuesses.j2 k2 t515 t516 t517 t520 x7_2 (!(Op.bytesLess (((rd_T36 t520 (wrap64 (x7_2 - 1))).f0).toList) (((rd_T36 t520 x7_2).f0).toList)))) else (laws_FnGuesses.j2 k2 t515 t516 t517 t520 x7_2 false))) else (none)) else (none)) else (laws_FnGuesses.j2 k2 t515 t516 t517 t520 x7_2 false))) else (laws_FnGuesses.j2 k2 t515 t516 t517 t520 x7_2 true)) = some r := H
             have A25 := Aside0.mk A250
             clear A250
             by_cases c26 : t530 = ((rd_T36 t520 x7_2).f1)
             ·rw [if_pos c26] at H
              have c26b0 : (t530 == ((rd_T36 t520 x7_2).f1)) = true := beq_iff_eq.mpr c26
              have c26b1 : (t530 != ((rd_T36 t520 x7_2).f1)) = false := bne_eq_false_iff_eq.mpr c26
              clear c26
              by_cases c27 : ((rd_T36 t520 x7_2).f1) > t517
              ·rw [if_pos c27] at H
               have c27b0 := decide_eq_true c27
               clear c27
               have H' := am H
               clear H
               as_aux_lemma =>
                try go_wp2
                replace HO_3 := am (Kd.R_drew HO_3.out)
                replace HO_6 := am (Kd.R_drew HO_6.out)
                replace HB := am (below_drew1 HB.out)
                have p527 : 0 ≤ (x7_2 : Int) := of_decide_eq_true ad
                have q527 : x7_2 < (t520.length : Int) := of_decide_eq_true ad
                obtain ⟨ad527, e527, hx527_0, hx527_1⟩ := at_T36 (Kd.R_reads' HO_6.out).2.2 x7_2 p527 q527
                cases e527
                replace p527 := eq_true p527
                replace q527 := eq_true q527
                have p529 : 0 ≤ (x7_2 : Int) := of_decide_eq_true ad
                have q529 : x7_2 < (t520.length : Int) := of_decide_eq_true ad
                obtain ⟨ad529, e529, hx529_0, hx529_1⟩ := at_T36 (Kd.R_reads' HO_6.out).2.2 x7_2 p529 q529
                obtain rfl : ad527 = ad529 := (by injection e529)
                replace p529 := eq_true p529
                replace q529 := eq_true q529
                have p531 : 0 ≤ (x7_2 : Int) := of_decide_eq_true ad
                have q531 : x7_2 < (t520.length : Int) := of_decide_eq_true ad
                obtain ⟨ad531, e531, hx531_0, hx531_1⟩ := at_T36 (Kd.R_reads' HO_6.out).2.2 x7_2 p531 q531
                obtain rfl : ad527 = ad531 := (by injection e531)
                replace p531 := eq_true p531
                replace q531 := eq_true q531
                have p532 : 0 ≤ (x7_2 : Int) := of_decide_eq_true ad
                have q532 : x7_2 < (t520.length : Int) := of_decide_eq_true ad
                obtain ⟨ad532, e532, hx532_0, hx532_1⟩ := at_T36 (Kd.R_reads' HO_6.out).2.2 x7_2 p532 q532
                obtain rfl : ad527 = ad532 := (by injection e532)
                replace p532 := eq_true p532
                replace q532 := eq_true q532
                refine st (n := 78) (S := fun w' => w'.cell? (ad527.add ((x7_2).toNat * 2)) = some (.string ((rd_T36 t520 x7_2).f0)) ∧ w'.cell? ⟨(ad527.add ((x7_2).toNat * 2)).block, (ad527.add ((x7_2).toNat * 2)).off + 1, none⟩ = some (.int .i64 ((rd_T36 t520 x7_2).f1)) ∧ w'.cell? (ad527.add ((x7_2).toNat * 2)) = some (.string ((rd_T36 t520 x7_2).f0)) ∧ w'.cell? ⟨(ad527.add ((x7_2).toNat * 2)).block, (ad527.add ((x7_2).toNat * 2)).off + 1, none⟩ = some (.int .i64 ((rd_T36 t520 x7_2).f1)) ∧ w'.cell? (ad527.add ((x7_2).toNat * 2)) = some (.string ((rd_T36 t520 x7_2).f0)) ∧ w'.cell? ⟨(ad527.add ((x7_2).toNat * 2)).block, (ad527.add ((x7_2).toNat * 2)).off + 1, none⟩ = some (.int .i64 ((rd_T36 t520 x7_2).f1)) ∧ w'.cell? (ad527.add ((x7_2).toNat * 2)) = some (.string ((rd_T36 t520 x7_2).f0)) ∧ w'.cell? ⟨(ad527.add ((x7_2).toNat * 2)).block, (ad527.add ((x7_2).toNat * 2)).off + 1, none⟩ = some (.int .i64 ((rd_T36 t520 x7_2).f1))) (ds := []) ⟨hx527_0, hx527_1, hx529_0, hx529_1, hx531_0, hx531_1, hx532_0, hx532_1⟩ (fun hHeld => ?_)
                refine with_tabW laws_FnGuesses.tab10 laws_FnGuesses.bits10 (fun HT_ HW_ => ?_)
                generalize wr.drew = w28 at HO_3 HO_6 HB hx527_0 hx527_1 hx529_0 hx529_1 hx531_0 hx531_1 hx532_0 hx532_1 hHeld ⊢
                refine pu 0 42 ?_
                refine pu 1 43 ?_
                refine pu 2 44 ?_
                refine pu 3 45 ?_
                refine pu 4 46 ?_
                refine take_ (i := 5) (N := some 47) (v := ?_) (a' := ?_) #[true, true, true, true, true, true, false, false, false, false, false, false, false, false, false, false, false, false, false, false, false, false, false, false, false, false, false, false, false, false, false, false, false, false, false, false, false, false, false, false, false, false, false, false, false, false, false, false, false, false, false, false, false, false, false, false, false, false, false, false, false, false, false, false, false, false, false, false, false, false, false, false, false, false, false, false, false, false] rfl rfl (take_ofW HT_.out HW_.out (by kernel_rfl)) (fun _ _ _ h => h) (Or.inl ⟨by rfl, ?_⟩) hHeld ?_ ?_
                rotate_left
                ·rintro w' ⟨s0, s1, s2, s3, s4, s5, s6, s7⟩
                 go_simp
                 with_reducible rfl
                rotate_left
                ·simp only [Act.put, List.setIfInBounds_toArray, List.set_cons_zero, List.set_cons_succ, i64_w, i32_w]
                 rfl
                refine on1 6 48 (fun K hK => ?_)
                refine goes_ Try.func22 (by kernel_rfl) rfl #[.slice Ao7 t515.length co7, .string ((rd_T36 t520 x7_2).f0)] (by rfl) rfl rfl mq ?_
                with_reducible refine (laws_mdHas.calls k2 _ _ t515 ((rd_T36 t520 x7_2).f0) true _ ?side1 ?side2 A23.out).mono ?_
                (case side1 => exact cq (Kd.R_reads' HO_3.out).2.2)
                (case side2 => exact (Kd.R_reads' HO_3.out).2.1)
                rintro e w' ⟨rfl, ⟨nd, rfl⟩⟩
                refine ⟨_, rfl, ?_⟩
                refine hK.out _ _ ⟨hHeld.1, hHeld.2.1, hHeld.2.2.1, hHeld.2.2.2.1, hHeld.2.2.2.2.1, hHeld.2.2.2.2.2.1, hHeld.2.2.2.2.2.2.1, hHeld.2.2.2.2.2.2.2⟩ (fun hHeld => ?_)
                clear hK K
                refine norm_ (a' := ?_) ?_ ?_
                rotate_left
                ·show Act.put _ (some 48) _ = _
                 simp only [Act.put, List.setIfInBounds_toArray, List.set_cons_zero, List.set_cons_succ, i64_w, i32_w]
                 rfl
                refine pu 7 49 ?_
                refine pu 8 50 ?_
                refine pu 9 51 ?_
                refine pu 10 52 ?_
                refine pu 11 53 ?_
                refine pu 12 54 ?_
                refine pu 14 56 ?_
                refine pu 16 58 ?_
                refine pu 17 59 ?_
                refine pu 18 60 ?_
                refine pu 19 61 ?_
                refine take_ (i := 13) (N := some 55) (v := ?_) (a' := ?_) #[true, true, true, true, true, true, true, true, true, true, true, true, true, true, true, false, true, true, true, true, false, false, false, false, false, false, false, false, false, false, false, false, false, false, false, false, false, false, false, false, false, false, false, false, false, false, false, false, false, false, false, false, false, false, false, false, false, false, false, false, false, false, false, false, false, false, false, false, false, false, false, false, false, false, false, false, false, false] rfl rfl (take_ofW HT_.out HW_.out (by kernel_rfl)) (fun _ _ _ h => h) (Or.inl ⟨by rfl, ?_⟩) hHeld ?_ ?_
                rotate_left
                ·rintro w' ⟨s0, s1, s2, s3, s4, s5, s6, s7⟩
                 go_simp
                 with_reducible rfl
                rotate_left
                ·simp only [Act.put, List.setIfInBounds_toArray, List.set_cons_zero, List.set_cons_succ, i64_w, i32_w]
                 rfl
                refine take_ (i := 20) (N := some 62) (v := ?_) (a' := ?_) #[true, true, true, true, true, true, true, true, true, true, true, true, true, true, true, false, true, true, true, true, true, false, false, false, false, false, false, false, false, false, false, false, false, false, false, false, false, false, false, false, false, false, false, false, false, false, false, false, false, false, false, false, false, false, false, false, false, false, false, false, false, false, false, false, false, false, false, false, false, false, false, false, false, false, false, false, false, false] rfl rfl (take_ofW HT_.out HW_.out (by kernel_rfl)) (fun _ _ _ h => h) (Or.inl ⟨by rfl, ?_⟩) hHeld ?_ ?_
                rotate_left
                ·rintro w' ⟨s0, s1, s2, s3, s4, s5, s6, s7⟩
                 go_simp
                 with_reducible rfl
                rotate_left
                ·simp only [Act.put, List.setIfInBounds_toArray, List.set_cons_zero, List.set_cons_succ, i64_w, i32_w]
                 rfl
                refine on1 15 57 (fun K hK => ?_)
                refine goes_ Try.func23 (by kernel_rfl) rfl #[.string ((rd_T36 t520 x7_2).f0), .string t516] (by rfl) rfl rfl mq ?_
                with_reducible refine (impl_Far.calls k2 ((rd_T36 t520 x7_2).f0) t516 t530 _ A25.out).mono ?_
                rintro e w29 ⟨rfl, hb⟩
                have HS0_ := (hb.cell (World.block_lt_of_cell? _ _ (hHeld.1))).trans (hHeld.1)
                have HS1_ := (hb.cell (World.block_lt_of_cell? _ _ (hHeld.2.1))).trans (hHeld.2.1)
                have HS2_ := (hb.cell (World.block_lt_of_cell? _ _ (hHeld.2.2.1))).trans (hHeld.2.2.1)
                have HS3_ := (hb.cell (World.block_lt_of_cell? _ _ (hHeld.2.2.2.1))).trans (hHeld.2.2.2.1)
                have HS4_ := (hb.cell (World.block_lt_of_cell? _ _ (hHeld.2.2.2.2.1))).trans (hHeld.2.2.2.2.1)
                have HS5_ := (hb.cell (World.block_lt_of_cell? _ _ (hHeld.2.2.2.2.2.1))).trans (hHeld.2.2.2.2.2.1)
                have HS6_ := (hb.cell (World.block_lt_of_cell? _ _ (hHeld.2.2.2.2.2.2.1))).trans (hHeld.2.2.2.2.2.2.1)
                have HS7_ := (hb.cell (World.block_lt_of_cell? _ _ (hHeld.2.2.2.2.2.2.2))).trans (hHeld.2.2.2.2.2.2.2)
                refine ⟨_, rfl, ?_⟩
                replace HO_3 := am (Kd.R_below (rq HO_3.out) hb)
                replace HO_6 := am (Kd.R_below (rq HO_6.out) hb)
                replace HB := am (below_step bel hb)
                (try clear hb)
                (try clear hb2)
                (try clear hk)
                (try clear hi)
                refine hK.out _ _ ⟨HS0_, HS1_, HS2_, HS3_, HS4_, HS5_, HS6_, HS7_⟩ (fun hHeld => ?_)
                clear hK K
                refine norm_ (a' := ?_) ?_ ?_
                rotate_left
                ·show Act.put _ (some 57) _ = _
                 simp only [Act.put, List.setIfInBounds_toArray, List.set_cons_zero, List.set_cons_succ, i64_w, i32_w]
                 rfl
                refine pu 21 63 ?_
                refine pu 22 64 ?_
                refine pu 23 65 ?_
                refine pu 24 66 ?_
                refine pu 25 67 ?_
                refine pu 26 68 ?_
                refine pu 27 69 ?_
                refine pu 29 71 ?_
                refine take_ (i := 28) (N := some 70) (v := ?_) (a' := ?_) #[true, true, true, true, true, true, true, true, true, true, true, true, true, true, true, true, true, true, true, true, true, true, true, true, true, true, true, true, true, true, false, false, false, false, false, false, false, false, false, false, false, false, false, false, false, false, false, false, false, false, false, false, false, false, false, false, false, false, false, false, false, false, false, false, false, false, false, false, false, false, false, false, false, false, false, false, false, false] rfl rfl (take_ofW HT_.out HW_.out (by kernel_rfl)) (fun _ _ _ h => h) (Or.inl ⟨by rfl, ?_⟩) hHeld ?_ ?_
                rotate_left
                ·rintro w' ⟨s0, s1, s2, s3, s4, s5, s6, s7⟩
                 go_simp
                 with_reducible rfl
                rotate_left
                ·simp only [Act.put, List.setIfInBounds_toArray, List.set_cons_zero, List.set_cons_succ, i64_w, i32_w]
                 rfl
                refine pu 30 72 ?_
                refine pu 31 73 ?_
                refine pu 32 74 ?_
                refine puu 33 75 ?_
                refine puu 34 76 ?_
                refine puu 35 77 ?_
                refine puu 36 78 ?_
                refine puu 37 79 ?_
                refine puu 38 80 ?_
                refine puu 39 81 ?_
                refine puu 40 82 ?_
                refine puu 41 83 ?_
                refine puu 42 84 ?_
                refine puu 43 85 ?_
                refine puu 44 86 ?_
                refine puu 45 87 ?_
                refine puu 46 88 ?_
                refine puu 47 89 ?_
                refine puu 48 90 ?_
                refine puu 49 91 ?_
                refine puu 50 92 ?_
                refine puu 51 93 ?_
                refine puu 52 94 ?_
                refine puu 53 95 ?_
                refine puu 54 96 ?_
                refine puu 55 97 ?_
                refine puu 56 98 ?_
                refine puu 57 99 ?_
                refine puu 58 100 ?_
                refine puu 59 101 ?_
                refine puu 60 102 ?_
                refine puu 61 103 ?_
                refine puu 62 104 ?_
                refine puu 63 105 ?_
                refine puu 64 106 ?_
                refine puu 65 107 ?_
                refine puu 66 108 ?_
                refine puu 67 109 ?_
                refine puu 68 110 ?_
                refine puu 69 111 ?_
                refine puu 70 112 ?_
                refine puu 71 113 ?_
                refine puu 72 114 ?_
                refine puu 73 115 ?_
                refine puu 74 116 ?_
                refine puu 75 117 ?_
                refine puu 76 118 ?_
                refine pu 77 119 ?_
                refine done_ (done_of HT_.out (by kernel_rfl)) ?_
                try go_wp2
                go_meet
                case rel => exact ⟨_, (true), sq, H', ⟨b37_⟩, ⟨rq HO_3.out⟩, ⟨rq HO_6.out⟩, ⟨bel⟩⟩
              rw [if_neg c27] at H
              have c27b0 := decide_eq_false c27
              clear c27
              by_cases c30 : x7_2 > 0
              ·rw [if_pos c30] at H
               have c30b0 := decide_eq_true c30
               clear c30
               obtain ⟨ji31, hji31⟩ : ∃ j_ : Int, (wrap64 (x7_2 - 1)) = j_ := ⟨_, rfl⟩
               replace H : (if 0 ≤ (ji31) then (if (ji31) < (t520.length : Int) then (if ((rd_T36 t520 (ji31)).f1) > ((rd_T36 t520 x7_2).f1) then (laws_FnGuesses.j2 k2 t515 t516 t517 t520 x7_2 true) else (if ((rd_T36 t520 (ji31)).f1) = ((rd_T36 t520 x7_2).f1) then (laws_FnGuesses.j2 k2 t515 t516 t517 t520 x7_2 (!(Op.bytesLess (((rd_T36 t520 (ji31)).f0).toList) (((rd_T36 t520 x7_2).f0).toList)))) else (laws_FnGuesses.j2 k2 t515 t516 t517 t520 x7_2 false))) else (none)) else (none)) = some r := by first | (rw [hji31] at H; exact H) | (simp only [hji31] at H ⊢; exact H)
               (try rw [hji31] at A23)
               (try rw [hji31] at A25)
               have hji31w : (IntKind.i64.wrap (x7_2 - 1)) = ji31 := (i64_w _).trans hji31
               replace H := it H
               obtain ⟨c32b0, H⟩ := H
               replace H := it H
               obtain ⟨c33b0, H⟩ := H
               by_cases c34 : ((rd_T36 t520 (ji31)).f1) > ((rd_T36 t520 x7_2).f1)
               ·rw [if_pos c34] at H
                have c34b0 := decide_eq_true c34
                clear c34
                have H' := am H
                clear H
                as_aux_lemma =>
                 try go_wp2
                 replace HO_3 := am (Kd.R_drew HO_3.out)
                 replace HO_6 := am (Kd.R_drew HO_6.out)
                 replace HB := am (below_drew1 HB.out)
                 have p527 : 0 ≤ (x7_2 : Int) := of_decide_eq_true ad
                 have q527 : x7_2 < (t520.length : Int) := of_decide_eq_true ad
                 obtain ⟨ad527, e527, hx527_0, hx527_1⟩ := at_T36 (Kd.R_reads' HO_6.out).2.2 x7_2 p527 q527
                 cases e527
                 replace p527 := eq_true p527
                 replace q527 := eq_true q527
                 have p529 : 0 ≤ (x7_2 : Int) := of_decide_eq_true ad
                 have q529 : x7_2 < (t520.length : Int) := of_decide_eq_true ad
                 obtain ⟨ad529, e529, hx529_0, hx529_1⟩ := at_T36 (Kd.R_reads' HO_6.out).2.2 x7_2 p529 q529
                 obtain rfl : ad527 = ad529 := (by injection e529)
                 replace p529 := eq_true p529
                 replace q529 := eq_true q529
                 have p531 : 0 ≤ (x7_2 : Int) := of_decide_eq_true ad
                 have q531 : x7_2 < (t520.length : Int) := of_decide_eq_true ad
                 obtain ⟨ad531, e531, hx531_0, hx531_1⟩ := at_T36 (Kd.R_reads' HO_6.out).2.2 x7_2 p531 q531
                 obtain rfl : ad527 = ad531 := (by injection e531)
                 replace p531 := eq_true p531
                 replace q531 := eq_true q531
                 have p532 : 0 ≤ (x7_2 : Int) := of_decide_eq_true ad
                 have q532 : x7_2 < (t520.length : Int) := of_decide_eq_true ad
                 obtain ⟨ad532, e532, hx532_0, hx532_1⟩ := at_T36 (Kd.R_reads' HO_6.out).2.2 x7_2 p532 q532
                 obtain rfl : ad527 = ad532 := (by injection e532)
                 replace p532 := eq_true p532
                 replace q532 := eq_true q532
                 have p533 : 0 ≤ ((ji31) : Int) := of_decide_eq_true ad
                 have q533 : (ji31) < (t520.length : Int) := of_decide_eq_true ad
                 obtain ⟨ad533, e533, hx533_0, hx533_1⟩ := at_T36 (Kd.R_reads' HO_6.out).2.2 (ji31) p533 q533
                 obtain rfl : ad527 = ad533 := (by injection e533)
                 replace p533 := eq_true p533
                 replace q533 := eq_true q533
                 have p534 : 0 ≤ (x7_2 : Int) := of_decide_eq_true ad
                 have q534 : x7_2 < (t520.length : Int) := of_decide_eq_true ad
                 obtain ⟨ad534, e534, hx534_0, hx534_1⟩ := at_T36 (Kd.R_reads' HO_6.out).2.2 x7_2 p534 q534
                 obtain rfl : ad527 = ad534 := (by injection e534)
                 replace p534 := eq_true p534
                 replace q534 := eq_true q534
                 refine st (n := 78) (S := fun w' => w'.cell? (ad527.add ((x7_2).toNat * 2)) = some (.string ((rd_T36 t520 x7_2).f0)) ∧ w'.cell? ⟨(ad527.add ((x7_2).toNat * 2)).block, (ad527.add ((x7_2).toNat * 2)).off + 1, none⟩ = some (.int .i64 ((rd_T36 t520 x7_2).f1)) ∧ w'.cell? (ad527.add ((x7_2).toNat * 2)) = some (.string ((rd_T36 t520 x7_2).f0)) ∧ w'.cell? ⟨(ad527.add ((x7_2).toNat * 2)).block, (ad527.add ((x7_2).toNat * 2)).off + 1, none⟩ = some (.int .i64 ((rd_T36 t520 x7_2).f1)) ∧ w'.cell? (ad527.add ((x7_2).toNat * 2)) = some (.string ((rd_T36 t520 x7_2).f0)) ∧ w'.cell? ⟨(ad527.add ((x7_2).toNat * 2)).block, (ad527.add ((x7_2).toNat * 2)).off + 1, none⟩ = some (.int .i64 ((rd_T36 t520 x7_2).f1)) ∧ w'.cell? (ad527.add ((x7_2).toNat * 2)) = some (.string ((rd_T36 t520 x7_2).f0)) ∧ w'.cell? ⟨(ad527.add ((x7_2).toNat * 2)).block, (ad527.add ((x7_2).toNat * 2)).off + 1, none⟩ = some (.int .i64 ((rd_T36 t520 x7_2).f1)) ∧ w'.cell? (ad527.add (((ji31)).toNat * 2)) = some (.string ((rd_T36 t520 (ji31)).f0)) ∧ w'.cell? ⟨(ad527.add (((ji31)).toNat * 2)).block, (ad527.add (((ji31)).toNat * 2)).off + 1, none⟩ = some (.int .i64 ((rd_T36 t520 (ji31)).f1)) ∧ w'.cell? (ad527.add ((x7_2).toNat * 2)) = some (.string ((rd_T36 t520 x7_2).f0)) ∧ w'.cell? ⟨(ad527.add ((x7_2).toNat * 2)).block, (ad527.add ((x7_2).toNat * 2)).off + 1, none⟩ = some (.int .i64 ((rd_T36 t520 x7_2).f1))) (ds := []) ⟨hx527_0, hx527_1, hx529_0, hx529_1, hx531_0, hx531_1, hx532_0, hx532_1, hx533_0, hx533_1, hx534_0, hx534_1⟩ (fun hHeld => ?_)
                 refine with_tabW laws_FnGuesses.tab10 laws_FnGuesses.bits10 (fun HT_ HW_ => ?_)
                 generalize wr.drew = w35 at HO_3 HO_6 HB hx527_0 hx527_1 hx529_0 hx529_1 hx531_0 hx531_1 hx532_0 hx532_1 hx533_0 hx533_1 hx534_0 hx534_1 hHeld ⊢
                 refine pu 0 42 ?_
                 refine pu 1 43 ?_
                 refine pu 2 44 ?_
                 refine pu 3 45 ?_
                 refine pu 4 46 ?_
                 refine take_ (i := 5) (N := some 47) (v := ?_) (a' := ?_) #[true, true, true, true, true, true, false, false, false, false, false, false, false, false, false, false, false, false, false, false, false, false, false, false, false, false, false, false, false, false, false, false, false, false, false, false, false, false, false, false, false, false, false, false, false, false, false, false, false, false, false, false, false, false, false, false, false, false, false, false, false, false, false, false, false, false, false, false, false, false, false, false, false, false, false, false, false, false] rfl rfl (take_ofW HT_.out HW_.out (by kernel_rfl)) (fun _ _ _ h => h) (Or.inl ⟨by rfl, ?_⟩) hHeld ?_ ?_
                 rotate_left
                 ·rintro w' ⟨s0, s1, s2, s3, s4, s5, s6, s7, s8, s9, s10, s11⟩
                  go_simp
                  with_reducible rfl
                 rotate_left
                 ·simp only [Act.put, List.setIfInBounds_toArray, List.set_cons_zero, List.set_cons_succ, i64_w, i32_w]
                  rfl
                 refine on1 6 48 (fun K hK => ?_)
                 refine goes_ Try.func22 (by kernel_rfl) rfl #[.slice Ao7 t515.length co7, .string ((rd_T36 t520 x7_2).f0)] (by rfl) rfl rfl mq ?_
                 with_reducible refine (laws_mdHas.calls k2 _ _ t515 ((rd_T36 t520 x7_2).f0) true _ ?side1 ?side2 A23.out).mono ?_
                 (case side1 => exact cq (Kd.R_reads' HO_3.out).2.2)
                 (case side2 => exact (Kd.R_reads' HO_3.out).2.1)
                 rintro e w' ⟨rfl, ⟨nd, rfl⟩⟩
                 refine ⟨_, rfl, ?_⟩
                 refine hK.out _ _ ⟨hHeld.1, hHeld.2.1, hHeld.2.2.1, hHeld.2.2.2.1, hHeld.2.2.2.2.1, hHeld.2.2.2.2.2.1, hHeld.2.2.2.2.2.2.1, hHeld.2.2.2.2.2.2.2.1, hHeld.2.2.2.2.2.2.2.2.1, hHeld.2.2.2.2.2.2.2.2.2.1, hHeld.2.2.2.2.2.2.2.2.2.2.1, hHeld.2.2.2.2.2.2.2.2.2.2.2⟩ (fun hHeld => ?_)
                 clear hK K
                 refine norm_ (a' := ?_) ?_ ?_
                 rotate_left
                 ·show Act.put _ (some 48) _ = _
                  simp only [Act.put, List.setIfInBounds_toArray, List.set_cons_zero, List.set_cons_succ, i64_w, i32_w]
                  rfl
                 refine pu 7 49 ?_
                 refine pu 8 50 ?_
                 refine pu 9 51 ?_
                 refine pu 10 52 ?_
                 refine pu 11 53 ?_
                 refine pu 12 54 ?_
                 refine pu 14 56 ?_
                 refine pu 16 58 ?_
                 refine pu 17 59 ?_
                 refine pu 18 60 ?_
                 refine pu 19 61 ?_
                 refine take_ (i := 13) (N := some 55) (v := ?_) (a' := ?_) #[true, true, true, true, true, true, true, true, true, true, true, true, true, true, true, false, true, true, true, true, false, false, false, false, false, false, false, false, false, false, false, false, false, false, false, false, false, false, false, false, false, false, false, false, false, false, false, false, false, false, false, false, false, false, false, false, false, false, false, false, false, false, false, false, false, false, false, false, false, false, false, false, false, false, false, false, false, false] rfl rfl (take_ofW HT_.out HW_.out (by kernel_rfl)) (fun _ _ _ h => h) (Or.inl ⟨by rfl, ?_⟩) hHeld ?_ ?_
                 rotate_left
                 ·rintro w' ⟨s0, s1, s2, s3, s4, s5, s6, s7, s8, s9, s10, s11⟩
                  go_simp
                  with_reducible rfl
                 rotate_left
                 ·simp only [Act.put, List.setIfInBounds_toArray, List.set_cons_zero, List.set_cons_succ, i64_w, i32_w]
                  rfl
                 refine take_ (i := 20) (N := some 62) (v := ?_) (a' := ?_) #[true, true, true, true, true, true, true, true, true, true, true, true, true, true, true, false, true, true, true, true, true, false, false, false, false, false, false, false, false, false, false, false, false, false, false, false, false, false, false, false, false, false, false, false, false, false, false, false, false, false, false, false, false, false, false, false, false, false, false, false, false, false, false, false, false, false, false, false, false, false, false, false, false, false, false, false, false, false] rfl rfl (take_ofW HT_.out HW_.out (by kernel_rfl)) (fun _ _ _ h => h) (Or.inl ⟨by rfl, ?_⟩) hHeld ?_ ?_
                 rotate_left
                 ·rintro w' ⟨s0, s1, s2, s3, s4, s5, s6, s7, s8, s9, s10, s11⟩
                  go_simp
                  with_reducible rfl
                 rotate_left
                 ·simp only [Act.put, List.setIfInBounds_toArray, List.set_cons_zero, List.set_cons_succ, i64_w, i32_w]
                  rfl
                 refine on1 15 57 (fun K hK => ?_)
                 refine goes_ Try.func23 (by kernel_rfl) rfl #[.string ((rd_T36 t520 x7_2).f0), .string t516] (by rfl) rfl rfl mq ?_
                 with_reducible refine (impl_Far.calls k2 ((rd_T36 t520 x7_2).f0) t516 t530 _ A25.out).mono ?_
                 rintro e w36 ⟨rfl, hb⟩
                 have HS0_ := (hb.cell (World.block_lt_of_cell? _ _ (hHeld.1))).trans (hHeld.1)
                 have HS1_ := (hb.cell (World.block_lt_of_cell? _ _ (hHeld.2.1))).trans (hHeld.2.1)
                 have HS2_ := (hb.cell (World.block_lt_of_cell? _ _ (hHeld.2.2.1))).trans (hHeld.2.2.1)
                 have HS3_ := (hb.cell (World.block_lt_of_cell? _ _ (hHeld.2.2.2.1))).trans (hHeld.2.2.2.1)
                 have HS4_ := (hb.cell (World.block_lt_of_cell? _ _ (hHeld.2.2.2.2.1))).trans (hHeld.2.2.2.2.1)
                 have HS5_ := (hb.cell (World.block_lt_of_cell? _ _ (hHeld.2.2.2.2.2.1))).trans (hHeld.2.2.2.2.2.1)
                 have HS6_ := (hb.cell (World.block_lt_of_cell? _ _ (hHeld.2.2.2.2.2.2.1))).trans (hHeld.2.2.2.2.2.2.1)
                 have HS7_ := (hb.cell (World.block_lt_of_cell? _ _ (hHeld.2.2.2.2.2.2.2.1))).trans (hHeld.2.2.2.2.2.2.2.1)
                 have HS8_ := (hb.cell (World.block_lt_of_cell? _ _ (hHeld.2.2.2.2.2.2.2.2.1))).trans (hHeld.2.2.2.2.2.2.2.2.1)
                 have HS9_ := (hb.cell (World.block_lt_of_cell? _ _ (hHeld.2.2.2.2.2.2.2.2.2.1))).trans (hHeld.2.2.2.2.2.2.2.2.2.1)
                 have HS10_ := (hb.cell (World.block_lt_of_cell? _ _ (hHeld.2.2.2.2.2.2.2.2.2.2.1))).trans (hHeld.2.2.2.2.2.2.2.2.2.2.1)
                 have HS11_ := (hb.cell (World.block_lt_of_cell? _ _ (hHeld.2.2.2.2.2.2.2.2.2.2.2))).trans (hHeld.2.2.2.2.2.2.2.2.2.2.2)
                 refine ⟨_, rfl, ?_⟩
                 replace HO_3 := am (Kd.R_below (rq HO_3.out) hb)
                 replace HO_6 := am (Kd.R_below (rq HO_6.out) hb)
                 replace HB := am (below_step bel hb)
                 (try clear hb)
                 (try clear hb2)
                 (try clear hk)
                 (try clear hi)
                 refine hK.out _ _ ⟨HS0_, HS1_, HS2_, HS3_, HS4_, HS5_, HS6_, HS7_, HS8_, HS9_, HS10_, HS11_⟩ (fun hHeld => ?_)
                 clear hK K
                 refine norm_ (a' := ?_) ?_ ?_
                 rotate_left
                 ·show Act.put _ (some 57) _ = _
                  simp only [Act.put, List.setIfInBounds_toArray, List.set_cons_zero, List.set_cons_succ, i64_w, i32_w]
                  rfl
                 refine pu 21 63 ?_
                 refine pu 22 64 ?_
                 refine pu 23 65 ?_
                 refine pu 24 66 ?_
                 refine pu 25 67 ?_
                 refine pu 26 68 ?_
                 refine pu 27 69 ?_
                 refine pu 29 71 ?_
                 refine take_ (i := 28) (N := some 70) (v := ?_) (a' := ?_) #[true, true, true, true, true, true, true, true, true, true, true, true, true, true, true, true, true, true, true, true, true, true, true, true, true, true, true, true, true, true, false, false, false, false, false, false, false, false, false, false, false, false, false, false, false, false, false, false, false, false, false, false, false, false, false, false, false, false, false, false, false, false, false, false, false, false, false, false, false, false, false, false, false, false, false, false, false, false] rfl rfl (take_ofW HT_.out HW_.out (by kernel_rfl)) (fun _ _ _ h => h) (Or.inl ⟨by rfl, ?_⟩) hHeld ?_ ?_
                 rotate_left
                 ·rintro w' ⟨s0, s1, s2, s3, s4, s5, s6, s7, s8, s9, s10, s11⟩
                  go_simp
                  with_reducible rfl
                 rotate_left
                 ·simp only [Act.put, List.setIfInBounds_toArray, List.set_cons_zero, List.set_cons_succ, i64_w, i32_w]
                  rfl
                 refine pu 30 72 ?_
                 refine pu 31 73 ?_
                 refine pu 32 74 ?_
                 refine pu 33 75 ?_
                 refine pu 34 76 ?_
                 refine pu 35 77 ?_
                 refine pu 36 78 ?_
                 refine pu 37 79 ?_
                 refine pu 38 80 ?_
                 refine pu 39 81 ?_
                 refine pu 40 82 ?_
                 refine pu 42 84 ?_
                 refine pu 43 85 ?_
                 refine pu 44 86 ?_
                 refine pu 45 87 ?_
                 refine take_ (i := 41) (N := some 83) (v := ?_) (a' := ?_) #[true, true, true, true, true, true, true, true, true, true, true, true, true, true, true, true, true, true, true, true, true, true, true, true, true, true, true, true, true, true, true, true, true, true, true, true, true, true, true, true, true, true, true, true, true, true, false, false, false, false, false, false, false, false, false, false, false, false, false, false, false, false, false, false, false, false, false, false, false, false, false, false, false, false, false, false, false, false] rfl rfl (take_ofW HT_.out HW_.out (by kernel_rfl)) (fun _ _ _ h => h) (Or.inl ⟨by rfl, ?_⟩) hHeld ?_ ?_
                 rotate_left
                 ·rintro w' ⟨s0, s1, s2, s3, s4, s5, s6, s7, s8, s9, s10, s11⟩
                  go_simp
                  with_reducible rfl
                 rotate_left
                 ·simp only [Act.put, List.setIfInBounds_toArray, List.set_cons_zero, List.set_cons_succ, i64_w, i32_w]
                  rfl
                 refine take_ (i := 46) (N := some 88) (v := ?_) (a' := ?_) #[true, true, true, true, true, true, true, true, true, true, true, true, true, true, true, true, true, true, true, true, true, true, true, true, true, true, true, true, true, true, true, true, true, true, true, true, true, true, true, true, true, true, true, true, true, true, true, false, false, false, false, false, false, false, false, false, false, false, false, false, false, false, false, false, false, false, false, false, false, false, false, false, false, false, false, false, false, false] rfl rfl (take_ofW HT_.out HW_.out (by kernel_rfl)) (fun _ _ _ h => h) (Or.inl ⟨by rfl, ?_⟩) hHeld ?_ ?_
                 rotate_left
                 ·rintro w' ⟨s0, s1, s2, s3, s4, s5, s6, s7, s8, s9, s10, s11⟩
                  go_simp
                  with_reducible rfl
                 rotate_left
                 ·simp only [Act.put, List.setIfInBounds_toArray, List.set_cons_zero, List.set_cons_succ, i64_w, i32_w]
                  rfl
                 refine pu 47 89 ?_
                 refine pu 48 90 ?_
                 refine puu 49 91 ?_
                 refine puu 50 92 ?_
                 refine puu 51 93 ?_
                 refine puu 52 94 ?_
                 refine puu 53 95 ?_
                 refine puu 54 96 ?_
                 refine puu 55 97 ?_
                 refine puu 56 98 ?_
                 refine puu 57 99 ?_
                 refine puu 58 100 ?_
                 refine puu 59 101 ?_
                 refine puu 60 102 ?_
                 refine puu 61 103 ?_
                 refine puu 62 104 ?_
                 refine puu 63 105 ?_
                 refine puu 64 106 ?_
                 refine puu 65 107 ?_
                 refine puu 66 108 ?_
                 refine puu 67 109 ?_
                 refine puu 68 110 ?_
                 refine puu 69 111 ?_
                 refine puu 70 112 ?_
                 refine puu 71 113 ?_
                 refine puu 72 114 ?_
                 refine puu 73 115 ?_
                 refine puu 74 116 ?_
                 refine pu 75 117 ?_
                 refine pu 76 118 ?_
                 refine pu 77 119 ?_
                 refine done_ (done_of HT_.out (by kernel_rfl)) ?_
                 try go_wp2
                 go_meet
                 case rel => exact ⟨_, (true), sq, H', ⟨b37_⟩, ⟨rq HO_3.out⟩, ⟨rq HO_6.out⟩, ⟨bel⟩⟩
               rw [if_neg c34] at H
               have c34b0 := decide_eq_false c34
               clear c34
               by_cases c37 : ((rd_T36 t520 (ji31)).f1) = ((rd_T36 t520 x7_2).f1)
               ·rw [if_pos c37] at H
                have c37b0 : (((rd_T36 t520 (ji31)).f1) == ((rd_T36 t520 x7_2).f1)) = true := beq_iff_eq.mpr c37
                have c37b1 : (((rd_T36 t520 (ji31)).f1) != ((rd_T36 t520 x7_2).f1)) = false := bne_eq_false_iff_eq.mpr c37
                clear c37
                have H' := am H
                clear H
                as_aux_lemma =>
                 try go_wp2
                 replace HO_3 := am (Kd.R_drew HO_3.out)
                 replace HO_6 := am (Kd.R_drew HO_6.out)
                 replace HB := am (below_drew1 HB.out)
                 have p527 : 0 ≤ (x7_2 : Int) := of_decide_eq_true ad
                 have q527 : x7_2 < (t520.length : Int) := of_decide_eq_true ad
                 obtain ⟨ad527, e527, hx527_0, hx527_1⟩ := at_T36 (Kd.R_reads' HO_6.out).2.2 x7_2 p527 q527
                 cases e527
                 replace p527 := eq_true p527
                 replace q527 := eq_true q527
                 have p529 : 0 ≤ (x7_2 : Int) := of_decide_eq_true ad
                 have q529 : x7_2 < (t520.length : Int) := of_decide_eq_true ad
                 obtain ⟨ad529, e529, hx529_0, hx529_1⟩ := at_T36 (Kd.R_reads' HO_6.out).2.2 x7_2 p529 q529
                 obtain rfl : ad527 = ad529 := (by injection e529)
                 replace p529 := eq_true p529
                 replace q529 := eq_true q529
                 have p531 : 0 ≤ (x7_2 : Int) := of_decide_eq_true ad
                 have q531 : x7_2 < (t520.length : Int) := of_decide_eq_true ad
                 obtain ⟨ad531, e531, hx531_0, hx531_1⟩ := at_T36 (Kd.R_reads' HO_6.out).2.2 x7_2 p531 q531
                 obtain rfl : ad527 = ad531 := (by injection e531)
                 replace p531 := eq_true p531
                 replace q531 := eq_true q531
                 have p532 : 0 ≤ (x7_2 : Int) := of_decide_eq_true ad
                 have q532 : x7_2 < (t520.length : Int) := of_decide_eq_true ad
                 obtain ⟨ad532, e532, hx532_0, hx532_1⟩ := at_T36 (Kd.R_reads' HO_6.out).2.2 x7_2 p532 q532
                 obtain rfl : ad527 = ad532 := (by injection e532)
                 replace p532 := eq_true p532
                 replace q532 := eq_true q532
                 have p533 : 0 ≤ ((ji31) : Int) := of_decide_eq_true ad
                 have q533 : (ji31) < (t520.length : Int) := of_decide_eq_true ad
                 obtain ⟨ad533, e533, hx533_0, hx533_1⟩ := at_T36 (Kd.R_reads' HO_6.out).2.2 (ji31) p533 q533
                 obtain rfl : ad527 = ad533 := (by injection e533)
                 replace p533 := eq_true p533
                 replace q533 := eq_true q533
                 have p534 : 0 ≤ (x7_2 : Int) := of_decide_eq_true ad
                 have q534 : x7_2 < (t520.length : Int) := of_decide_eq_true ad
                 obtain ⟨ad534, e534, hx534_0, hx534_1⟩ := at_T36 (Kd.R_reads' HO_6.out).2.2 x7_2 p534 q534
                 obtain rfl : ad527 = ad534 := (by injection e534)
                 replace p534 := eq_true p534
                 replace q534 := eq_true q534
                 have p535 : 0 ≤ ((ji31) : Int) := of_decide_eq_true ad
                 have q535 : (ji31) < (t520.length : Int) := of_decide_eq_true ad
                 obtain ⟨ad535, e535, hx535_0, hx535_1⟩ := at_T36 (Kd.R_reads' HO_6.out).2.2 (ji31) p535 q535
                 obtain rfl : ad527 = ad535 := (by injection e535)
                 replace p535 := eq_true p535
                 replace q535 := eq_true q535
                 have p536 : 0 ≤ (x7_2 : Int) := of_decide_eq_true ad
                 have q536 : x7_2 < (t520.length : Int) := of_decide_eq_true ad
                 obtain ⟨ad536, e536, hx536_0, hx536_1⟩ := at_T36 (Kd.R_reads' HO_6.out).2.2 x7_2 p536 q536
                 obtain rfl : ad527 = ad536 := (by injection e536)
                 replace p536 := eq_true p536
                 replace q536 := eq_true q536
                 have p537 : 0 ≤ ((ji31) : Int) := of_decide_eq_true ad
                 have q537 : (ji31) < (t520.length : Int) := of_decide_eq_true ad
                 obtain ⟨ad537, e537, hx537_0, hx537_1⟩ := at_T36 (Kd.R_reads' HO_6.out).2.2 (ji31) p537 q537
                 obtain rfl : ad527 = ad537 := (by injection e537)
                 replace p537 := eq_true p537
                 replace q537 := eq_true q537
                 have p538 : 0 ≤ (x7_2 : Int) := of_decide_eq_true ad
                 have q538 : x7_2 < (t520.length : Int) := of_decide_eq_true ad
                 obtain ⟨ad538, e538, hx538_0, hx538_1⟩ := at_T36 (Kd.R_reads' HO_6.out).2.2 x7_2 p538 q538
                 obtain rfl : ad527 = ad538 := (by injection e538)
                 replace p538 := eq_true p538
                 replace q538 := eq_true q538
                 refine st (n := 78) (S := fun w' => w'.cell? (ad527.add ((x7_2).toNat * 2)) = some (.string ((rd_T36 t520 x7_2).f0)) ∧ w'.cell? ⟨(ad527.add ((x7_2).toNat * 2)).block, (ad527.add ((x7_2).toNat * 2)).off + 1, none⟩ = some (.int .i64 ((rd_T36 t520 x7_2).f1)) ∧ w'.cell? (ad527.add ((x7_2).toNat * 2)) = some (.string ((rd_T36 t520 x7_2).f0)) ∧ w'.cell? ⟨(ad527.add ((x7_2).toNat * 2)).block, (ad527.add ((x7_2).toNat * 2)).off + 1, none⟩ = some (.int .i64 ((rd_T36 t520 x7_2).f1)) ∧ w'.cell? (ad527.add ((x7_2).toNat * 2)) = some (.string ((rd_T36 t520 x7_2).f0)) ∧ w'.cell? ⟨(ad527.add ((x7_2).toNat * 2)).block, (ad527.add ((x7_2).toNat * 2)).off + 1, none⟩ = some (.int .i64 ((rd_T36 t520 x7_2).f1)) ∧ w'.cell? (ad527.add ((x7_2).toNat * 2)) = some (.string ((rd_T36 t520 x7_2).f0)) ∧ w'.cell? ⟨(ad527.add ((x7_2).toNat * 2)).block, (ad527.add ((x7_2).toNat * 2)).off + 1, none⟩ = some (.int .i64 ((rd_T36 t520 x7_2).f1)) ∧ w'.cell? (ad527.add (((ji31)).toNat * 2)) = some (.string ((rd_T36 t520 (ji31)).f0)) ∧ w'.cell? ⟨(ad527.add (((ji31)).toNat * 2)).block, (ad527.add (((ji31)).toNat * 2)).off + 1, none⟩ = some (.int .i64 ((rd_T36 t520 (ji31)).f1)) ∧ w'.cell? (ad527.add ((x7_2).toNat * 2)) = some (.string ((rd_T36 t520 x7_2).f0)) ∧ w'.cell? ⟨(ad527.add ((x7_2).toNat * 2)).block, (ad527.add ((x7_2).toNat * 2)).off + 1, none⟩ = some (.int .i64 ((rd_T36 t520 x7_2).f1)) ∧ w'.cell? (ad527.add (((ji31)).toNat * 2)) = some (.string ((rd_T36 t520 (ji31)).f0)) ∧ w'.cell? ⟨(ad527.add (((ji31)).toNat * 2)).block, (ad527.add (((ji31)).toNat * 2)).off + 1, none⟩ = some (.int .i64 ((rd_T36 t520 (ji31)).f1)) ∧ w'.cell? (ad527.add ((x7_2).toNat * 2)) = some (.string ((rd_T36 t520 x7_2).f0)) ∧ w'.cell? ⟨(ad527.add ((x7_2).toNat * 2)).block, (ad527.add ((x7_2).toNat * 2)).off + 1, none⟩ = some (.int .i64 ((rd_T36 t520 x7_2).f1)) ∧ w'.cell? (ad527.add (((ji31)).toNat * 2)) = some (.string ((rd_T36 t520 (ji31)).f0)) ∧ w'.cell? ⟨(ad527.add (((ji31)).toNat * 2)).block, (ad527.add (((ji31)).toNat * 2)).off + 1, none⟩ = some (.int .i64 ((rd_T36 t520 (ji31)).f1)) ∧ w'.cell? (ad527.add ((x7_2).toNat * 2)) = some (.string ((rd_T36 t520 x7_2).f0)) ∧ w'.cell? ⟨(ad527.add ((x7_2).toNat * 2)).block, (ad527.add ((x7_2).toNat * 2)).off + 1, none⟩ = some (.int .i64 ((rd_T36 t520 x7_2).f1))) (ds := []) ⟨hx527_0, hx527_1, hx529_0, hx529_1, hx531_0, hx531_1, hx532_0, hx532_1, hx533_0, hx533_1, hx534_0, hx534_1, hx535_0, hx535_1, hx536_0, hx536_1, hx537_0, hx537_1, hx538_0, hx538_1⟩ (fun hHeld => ?_)
                 refine with_tabW laws_FnGuesses.tab10 laws_FnGuesses.bits10 (fun HT_ HW_ => ?_)
                 generalize wr.drew = w38 at HO_3 HO_6 HB hx527_0 hx527_1 hx529_0 hx529_1 hx531_0 hx531_1 hx532_0 hx532_1 hx533_0 hx533_1 hx534_0 hx534_1 hx535_0 hx535_1 hx536_0 hx536_1 hx537_0 hx537_1 hx538_0 hx538_1 hHeld ⊢
                 refine pu 0 42 ?_
                 refine pu 1 43 ?_
                 refine pu 2 44 ?_
                 refine pu 3 45 ?_
                 refine pu 4 46 ?_
                 refine take_ (i := 5) (N := some 47) (v := ?_) (a' := ?_) #[true, true, true, true, true, true, false, false, false, false, false, false, false, false, false, false, false, false, false, false, false, false, false, false, false, false, false, false, false, false, false, false, false, false, false, false, false, false, false, false, false, false, false, false, false, false, false, false, false, false, false, false, false, false, false, false, false, false, false, false, false, false, false, false, false, false, false, false, false, false, false, false, false, false, false, false, false, false] rfl rfl (take_ofW HT_.out HW_.out (by kernel_rfl)) (fun _ _ _ h => h) (Or.inl ⟨by rfl, ?_⟩) hHeld ?_ ?_
                 rotate_left
                 ·rintro w' ⟨s0, s1, s2, s3, s4, s5, s6, s7, s8, s9, s10, s11, s12, s13, s14, s15, s16, s17, s18, s19⟩
                  go_simp
                  with_reducible rfl
                 rotate_left
                 ·simp only [Act.put, List.setIfInBounds_toArray, List.set_cons_zero, List.set_cons_succ, i64_w, i32_w]
                  rfl
                 refine on1 6 48 (fun K hK => ?_)
                 refine goes_ Try.func22 (by kernel_rfl) rfl #[.slice Ao7 t515.length co7, .string ((rd_T36 t520 x7_2).f0)] (by rfl) rfl rfl mq ?_
                 with_reducible refine (laws_mdHas.calls k2 _ _ t515 ((rd_T36 t520 x7_2).f0) true _ ?side1 ?side2 A23.out).mono ?_
                 (case side1 => exact cq (Kd.R_reads' HO_3.out).2.2)
                 (case side2 => exact (Kd.R_reads' HO_3.out).2.1)
                 rintro e w' ⟨rfl, ⟨nd, rfl⟩⟩
                 refine ⟨_, rfl, ?_⟩
                 refine hK.out _ _ ⟨hHeld.1, hHeld.2.1, hHeld.2.2.1, hHeld.2.2.2.1, hHeld.2.2.2.2.1, hHeld.2.2.2.2.2.1, hHeld.2.2.2.2.2.2.1, hHeld.2.2.2.2.2.2.2.1, hHeld.2.2.2.2.2.2.2.2.1, hHeld.2.2.2.2.2.2.2.2.2.1, hHeld.2.2.2.2.2.2.2.2.2.2.1, hHeld.2.2.2.2.2.2.2.2.2.2.2.1, hHeld.2.2.2.2.2.2.2.2.2.2.2.2.1, hHeld.2.2.2.2.2.2.2.2.2.2.2.2.2.1, hHeld.2.2.2.2.2.2.2.2.2.2.2.2.2.2.1, hHeld.2.2.2.2.2.2.2.2.2.2.2.2.2.2.2.1, hHeld.2.2.2.2.2.2.2.2.2.2.2.2.2.2.2.2.1, hHeld.2.2.2.2.2.2.2.2.2.2.2.2.2.2.2.2.2.1, hHeld.2.2.2.2.2.2.2.2.2.2.2.2.2.2.2.2.2.2.1, hHeld.2.2.2.2.2.2.2.2.2.2.2.2.2.2.2.2.2.2.2⟩ (fun hHeld => ?_)
                 clear hK K
                 refine norm_ (a' := ?_) ?_ ?_
                 rotate_left
                 ·show Act.put _ (some 48) _ = _
                  simp only [Act.put, List.setIfInBounds_toArray, List.set_cons_zero, List.set_cons_succ, i64_w, i32_w]
                  rfl
                 refine pu 7 49 ?_
                 refine pu 8 50 ?_
                 refine pu 9 51 ?_
                 refine pu 10 52 ?_
                 refine pu 11 53 ?_
                 refine pu 12 54 ?_
                 refine pu 14 56 ?_
                 refine pu 16 58 ?_
                 refine pu 17 59 ?_
                 refine pu 18 60 ?_
                 refine pu 19 61 ?_
                 refine take_ (i := 13) (N := some 55) (v := ?_) (a' := ?_) #[true, true, true, true, true, true, true, true, true, true, true, true, true, true, true, false, true, true, true, true, false, false, false, false, false, false, false, false, false, false, false, false, false, false, false, false, false, false, false, false, false, false, false, false, false, false, false, false, false, false, false, false, false, false, false, false, false, false, false, false, false, false, false, false, false, false, false, false, false, false, false, false, false, false, false, false, false, false] rfl rfl (take_ofW HT_.out HW_.out (by kernel_rfl)) (fun _ _ _ h => h) (Or.inl ⟨by rfl, ?_⟩) hHeld ?_ ?_
                 rotate_left
                 ·rintro w' ⟨s0, s1, s2, s3, s4, s5, s6, s7, s8, s9, s10, s11, s12, s13, s14, s15, s16, s17, s18, s19⟩
                  go_simp
                  with_reducible rfl
                 rotate_left
                 ·simp only [Act.put, List.setIfInBounds_toArray, List.set_cons_zero, List.set_cons_succ, i64_w, i32_w]
                  rfl
                 refine take_ (i := 20) (N := some 62) (v := ?_) (a' := ?_) #[true, true, true, true, true, true, true, true, true, true, true, true, true, true, true, false, true, true, true, true, true, false, false, false, false, false, false, false, false, false, false, false, false, false, false, false, false, false, false, false, false, false, false, false, false, false, false, false, false, false, false, false, false, false, false, false, false, false, false, false, false, false, false, false, false, false, false, false, false, false, false, false, false, false, false, false, false, false] rfl rfl (take_ofW HT_.out HW_.out (by kernel_rfl)) (fun _ _ _ h => h) (Or.inl ⟨by rfl, ?_⟩) hHeld ?_ ?_
                 rotate_left
                 ·rintro w' ⟨s0, s1, s2, s3, s4, s5, s6, s7, s8, s9, s10, s11, s12, s13, s14, s15, s16, s17, s18, s19⟩
                  go_simp
                  with_reducible rfl
                 rotate_left
                 ·simp only [Act.put, List.setIfInBounds_toArray, List.set_cons_zero, List.set_cons_succ, i64_w, i32_w]
                  rfl
                 refine on1 15 57 (fun K hK => ?_)
                 refine goes_ Try.func23 (by kernel_rfl) rfl #[.string ((rd_T36 t520 x7_2).f0), .string t516] (by rfl) rfl rfl mq ?_
                 with_reducible refine (impl_Far.calls k2 ((rd_T36 t520 x7_2).f0) t516 t530 _ A25.out).mono ?_
                 rintro e w39 ⟨rfl, hb⟩
                 have HS0_ := (hb.cell (World.block_lt_of_cell? _ _ (hHeld.1))).trans (hHeld.1)
                 have HS1_ := (hb.cell (World.block_lt_of_cell? _ _ (hHeld.2.1))).trans (hHeld.2.1)
                 have HS2_ := (hb.cell (World.block_lt_of_cell? _ _ (hHeld.2.2.1))).trans (hHeld.2.2.1)
                 have HS3_ := (hb.cell (World.block_lt_of_cell? _ _ (hHeld.2.2.2.1))).trans (hHeld.2.2.2.1)
                 have HS4_ := (hb.cell (World.block_lt_of_cell? _ _ (hHeld.2.2.2.2.1))).trans (hHeld.2.2.2.2.1)
                 have HS5_ := (hb.cell (World.block_lt_of_cell? _ _ (hHeld.2.2.2.2.2.1))).trans (hHeld.2.2.2.2.2.1)
                 have HS6_ := (hb.cell (World.block_lt_of_cell? _ _ (hHeld.2.2.2.2.2.2.1))).trans (hHeld.2.2.2.2.2.2.1)
                 have HS7_ := (hb.cell (World.block_lt_of_cell? _ _ (hHeld.2.2.2.2.2.2.2.1))).trans (hHeld.2.2.2.2.2.2.2.1)
                 have HS8_ := (hb.cell (World.block_lt_of_cell? _ _ (hHeld.2.2.2.2.2.2.2.2.1))).trans (hHeld.2.2.2.2.2.2.2.2.1)
                 have HS9_ := (hb.cell (World.block_lt_of_cell? _ _ (hHeld.2.2.2.2.2.2.2.2.2.1))).trans (hHeld.2.2.2.2.2.2.2.2.2.1)
                 have HS10_ := (hb.cell (World.block_lt_of_cell? _ _ (hHeld.2.2.2.2.2.2.2.2.2.2.1))).trans (hHeld.2.2.2.2.2.2.2.2.2.2.1)
                 have HS11_ := (hb.cell (World.block_lt_of_cell? _ _ (hHeld.2.2.2.2.2.2.2.2.2.2.2.1))).trans (hHeld.2.2.2.2.2.2.2.2.2.2.2.1)
                 have HS12_ := (hb.cell (World.block_lt_of_cell? _ _ (hHeld.2.2.2.2.2.2.2.2.2.2.2.2.1))).trans (hHeld.2.2.2.2.2.2.2.2.2.2.2.2.1)
                 have HS13_ := (hb.cell (World.block_lt_of_cell? _ _ (hHeld.2.2.2.2.2.2.2.2.2.2.2.2.2.1))).trans (hHeld.2.2.2.2.2.2.2.2.2.2.2.2.2.1)
                 have HS14_ := (hb.cell (World.block_lt_of_cell? _ _ (hHeld.2.2.2.2.2.2.2.2.2.2.2.2.2.2.1))).trans (hHeld.2.2.2.2.2.2.2.2.2.2.2.2.2.2.1)
                 have HS15_ := (hb.cell (World.block_lt_of_cell? _ _ (hHeld.2.2.2.2.2.2.2.2.2.2.2.2.2.2.2.1))).trans (hHeld.2.2.2.2.2.2.2.2.2.2.2.2.2.2.2.1)
                 have HS16_ := (hb.cell (World.block_lt_of_cell? _ _ (hHeld.2.2.2.2.2.2.2.2.2.2.2.2.2.2.2.2.1))).trans (hHeld.2.2.2.2.2.2.2.2.2.2.2.2.2.2.2.2.1)
                 have HS17_ := (hb.cell (World.block_lt_of_cell? _ _ (hHeld.2.2.2.2.2.2.2.2.2.2.2.2.2.2.2.2.2.1))).trans (hHeld.2.2.2.2.2.2.2.2.2.2.2.2.2.2.2.2.2.1)
                 have HS18_ := (hb.cell (World.block_lt_of_cell? _ _ (hHeld.2.2.2.2.2.2.2.2.2.2.2.2.2.2.2.2.2.2.1))).trans (hHeld.2.2.2.2.2.2.2.2.2.2.2.2.2.2.2.2.2.2.1)
                 have HS19_ := (hb.cell (World.block_lt_of_cell? _ _ (hHeld.2.2.2.2.2.2.2.2.2.2.2.2.2.2.2.2.2.2.2))).trans (hHeld.2.2.2.2.2.2.2.2.2.2.2.2.2.2.2.2.2.2.2)
                 refine ⟨_, rfl, ?_⟩
                 replace HO_3 := am (Kd.R_below (rq HO_3.out) hb)
                 replace HO_6 := am (Kd.R_below (rq HO_6.out) hb)
                 replace HB := am (below_step bel hb)
                 (try clear hb)
                 (try clear hb2)
                 (try clear hk)
                 (try clear hi)
                 refine hK.out _ _ ⟨HS0_, HS1_, HS2_, HS3_, HS4_, HS5_, HS6_, HS7_, HS8_, HS9_, HS10_, HS11_, HS12_, HS13_, HS14_, HS15_, HS16_, HS17_, HS18_, HS19_⟩ (fun hHeld => ?_)
                 clear hK K
                 refine norm_ (a' := ?_) ?_ ?_
                 rotate_left
                 ·show Act.put _ (some 57) _ = _
                  simp only [Act.put, List.setIfInBounds_toArray, List.set_cons_zero, List.set_cons_succ, i64_w, i32_w]
                  rfl
                 refine pu 21 63 ?_
                 refine pu 22 64 ?_
                 refine pu 23 65 ?_
                 refine pu 24 66 ?_
                 refine pu 25 67 ?_
                 refine pu 26 68 ?_
                 refine pu 27 69 ?_
                 refine pu 29 71 ?_
                 refine take_ (i := 28) (N := some 70) (v := ?_) (a' := ?_) #[true, true, true, true, true, true, true, true, true, true, true, true, true, true, true, true, true, true, true, true, true, true, true, true, true, true, true, true, true, true, false, false, false, false, false, false, false, false, false, false, false, false, false, false, false, false, false, false, false, false, false, false, false, false, false, false, false, false, false, false, false, false, false, false, false, false, false, false, false, false, false, false, false, false, false, false, false, false] rfl rfl (take_ofW HT_.out HW_.out (by kernel_rfl)) (fun _ _ _ h => h) (Or.inl ⟨by rfl, ?_⟩) hHeld ?_ ?_
                 rotate_left
                 ·rintro w' ⟨s0, s1, s2, s3, s4, s5, s6, s7, s8, s9, s10, s11, s12, s13, s14, s15, s16, s17, s18, s19⟩
                  go_simp
                  with_reducible rfl
                 rotate_left
                 ·simp only [Act.put, List.setIfInBounds_toArray, List.set_cons_zero, List.set_cons_succ, i64_w, i32_w]
                  rfl
                 refine pu 30 72 ?_
                 refine pu 31 73 ?_
                 refine pu 32 74 ?_
                 refine pu 33 75 ?_
                 refine pu 34 76 ?_
                 refine pu 35 77 ?_
                 refine pu 36 78 ?_
                 refine pu 37 79 ?_
                 refine pu 38 80 ?_
                 refine pu 39 81 ?_
                 refine pu 40 82 ?_
                 refine pu 42 84 ?_
                 refine pu 43 85 ?_
                 refine pu 44 86 ?_
                 refine pu 45 87 ?_
                 refine take_ (i := 41) (N := some 83) (v := ?_) (a' := ?_) #[true, true, true, true, true, true, true, true, true, true, true, true, true, true, true, true, true, true, true, true, true, true, true, true, true, true, true, true, true, true, true, true, true, true, true, true, true, true, true, true, true, true, true, true, true, true, false, false, false, false, false, false, false, false, false, false, false, false, false, false, false, false, false, false, false, false, false, false, false, false, false, false, false, false, false, false, false, false] rfl rfl (take_ofW HT_.out HW_.out (by kernel_rfl)) (fun _ _ _ h => h) (Or.inl ⟨by rfl, ?_⟩) hHeld ?_ ?_
                 rotate_left
                 ·rintro w' ⟨s0, s1, s2, s3, s4, s5, s6, s7, s8, s9, s10, s11, s12, s13, s14, s15, s16, s17, s18, s19⟩
                  go_simp
                  with_reducible rfl
                 rotate_left
                 ·simp only [Act.put, List.setIfInBounds_toArray, List.set_cons_zero, List.set_cons_succ, i64_w, i32_w]
                  rfl
                 refine take_ (i := 46) (N := some 88) (v := ?_) (a' := ?_) #[true, true, true, true, true, true, true, true, true, true, true, true, true, true, true, true, true, true, true, true, true, true, true, true, true, true, true, true, true, true, true, true, true, true, true, true, true, true, true, true, true, true, true, true, true, true, true, false, false, false, false, false, false, false, false, false, false, false, false, false, false, false, false, false, false, false, false, false, false, false, false, false, false, false, false, false, false, false] rfl rfl (take_ofW HT_.out HW_.out (by kernel_rfl)) (fun _ _ _ h => h) (Or.inl ⟨by rfl, ?_⟩) hHeld ?_ ?_
                 rotate_left
                 ·rintro w' ⟨s0, s1, s2, s3, s4, s5, s6, s7, s8, s9, s10, s11, s12, s13, s14, s15, s16, s17, s18, s19⟩
                  go_simp
                  with_reducible rfl
                 rotate_left
                 ·simp only [Act.put, List.setIfInBounds_toArray, List.set_cons_zero, List.set_cons_succ, i64_w, i32_w]
                  rfl
                 refine pu 47 89 ?_
                 refine pu 48 90 ?_
                 refine pu 49 91 ?_
                 refine pu 50 92 ?_
                 refine pu 51 93 ?_
                 refine pu 52 94 ?_
                 refine pu 53 95 ?_
                 refine pu 55 97 ?_
                 refine pu 56 98 ?_
                 refine pu 57 99 ?_
                 refine pu 58 100 ?_
                 refine take_ (i := 54) (N := some 96) (v := ?_) (a' := ?_) #[true, true, true, true, true, true, true, true, true, true, true, true, true, true, true, true, true, true, true, true, true, true, true, true, true, true, true, true, true, true, true, true, true, true, true, true, true, true, true, true, true, true, true, true, true, true, true, true, true, true, true, true, true, true, true, true, true, true, true, false, false, false, false, false, false, false, false, false, false, false, false, false, false, false, false, false, false, false] rfl rfl (take_ofW HT_.out HW_.out (by kernel_rfl)) (fun _ _ _ h => h) (Or.inl ⟨by rfl, ?_⟩) hHeld ?_ ?_
                 rotate_left
                 ·rintro w' ⟨s0, s1, s2, s3, s4, s5, s6, s7, s8, s9, s10, s11, s12, s13, s14, s15, s16, s17, s18, s19⟩
                  go_simp
                  with_reducible rfl
                 rotate_left
                 ·simp only [Act.put, List.setIfInBounds_toArray, List.set_cons_zero, List.set_cons_succ, i64_w, i32_w]
                  rfl
                 refine take_ (i := 59) (N := some 101) (v := ?_) (a' := ?_) #[true, true, true, true, true, true, true, true, true, true, true, true, true, true, true, true, true, true, true, true, true, true, true, true, true, true, true, true, true, true, true, true, true, true, true, true, true, true, true, true, true, true, true, true, true, true, true, true, true, true, true, true, true, true, true, true, true, true, true, true, false, false, false, false, false, false, false, false, false, false, false, false, false, false, false, false, false, false] rfl rfl (take_ofW HT_.out HW_.out (by kernel_rfl)) (fun _ _ _ h => h) (Or.inl ⟨by rfl, ?_⟩) hHeld ?_ ?_
                 rotate_left
                 ·rintro w' ⟨s0, s1, s2, s3, s4, s5, s6, s7, s8, s9, s10, s11, s12, s13, s14, s15, s16, s17, s18, s19⟩
                  go_simp
                  with_reducible rfl
                 rotate_left
                 ·simp only [Act.put, List.setIfInBounds_toArray, List.set_cons_zero, List.set_cons_succ, i64_w, i32_w]
                  rfl
                 refine pu 60 102 ?_
                 refine pu 61 103 ?_
                 refine pu 62 104 ?_
                 refine pu 63 105 ?_
                 refine pu 64 106 ?_
                 refine pu 65 107 ?_
                 refine pu 66 108 ?_
                 refine pu 68 110 ?_
                 refine pu 69 111 ?_
                 refine pu 70 112 ?_
                 refine pu 71 113 ?_
                 refine take_ (i := 67) (N := some 109) (v := ?_) (a' := ?_) #[true, true, true, true, true, true, true, true, true, true, true, true, true, true, true, true, true, true, true, true, true, true, true, true, true, true, true, true, true, true, true, true, true, true, true, true, true, true, true, true, true, true, true, true, true, true, true, true, true, true, true, true, true, true, true, true, true, true, true, true, true, true, true, true, true, true, true, true, true, true, true, true, false, false, false, false, false, false] rfl rfl (take_ofW HT_.out HW_.out (by kernel_rfl)) (fun _ _ _ h => h) (Or.inl ⟨by rfl, ?_⟩) hHeld ?_ ?_
                 rotate_left
                 ·rintro w' ⟨s0, s1, s2, s3, s4, s5, s6, s7, s8, s9, s10, s11, s12, s13, s14, s15, s16, s17, s18, s19⟩
                  go_simp
                  with_reducible rfl
                 rotate_left
                 ·simp only [Act.put, List.setIfInBounds_toArray, List.set_cons_zero, List.set_cons_succ, i64_w, i32_w]
                  rfl
                 refine take_ (i := 72) (N := some 114) (v := ?_) (a' := ?_) #[true, true, true, true, true, true, true, true, true, true, true, true, true, true, true, true, true, true, true, true, true, true, true, true, true, true, true, true, true, true, true, true, true, true, true, true, true, true, true, true, true, true, true, true, true, true, true, true, true, true, true, true, true, true, true, true, true, true, true, true, true, true, true, true, true, true, true, true, true, true, true, true, true, false, false, false, false, false] rfl rfl (take_ofW HT_.out HW_.out (by kernel_rfl)) (fun _ _ _ h => h) (Or.inl ⟨by rfl, ?_⟩) hHeld ?_ ?_
                 rotate_left
                 ·rintro w' ⟨s0, s1, s2, s3, s4, s5, s6, s7, s8, s9, s10, s11, s12, s13, s14, s15, s16, s17, s18, s19⟩
                  go_simp
                  with_reducible rfl
                 rotate_left
                 ·simp only [Act.put, List.setIfInBounds_toArray, List.set_cons_zero, List.set_cons_succ, i64_w, i32_w]
                  rfl
                 refine pu 73 115 ?_
                 refine pu 74 116 ?_
                 refine pu 75 117 ?_
                 refine pu 76 118 ?_
                 refine pu 77 119 ?_
                 refine done_ (done_of HT_.out (by kernel_rfl)) ?_
                 try go_wp2
                 go_meet
                 case rel => exact ⟨_, (!(Op.bytesLess (((rd_T36 t520 (ji31)).f0).toList) (((rd_T36 t520 x7_2).f0).toList))), (by first | rfl | (simp; done) | (simp only [← hji31] <;> (first | rfl | simp)) | (simp [*]; done)), H', ⟨b37_⟩, ⟨rq HO_3.out⟩, ⟨rq HO_6.out⟩, ⟨bel⟩⟩
               rw [if_neg c37] at H
               have c37b0 : (((rd_T36 t520 (ji31)).f1) == ((rd_T36 t520 x7_2).f1)) = false := beq_eq_false_iff_ne.mpr c37
               have c37b1 : (((rd_T36 t520 (ji31)).f1) != ((rd_T36 t520 x7_2).f1)) = true := bne_iff_ne.mpr c37
               have H' := am H
               clear H
               as_aux_lemma =>
                try go_wp2
                replace HO_3 := am (Kd.R_drew HO_3.out)
                replace HO_6 := am (Kd.R_drew HO_6.out)
                replace HB := am (below_drew1 HB.out)
                have p527 : 0 ≤ (x7_2 : Int) := of_decide_eq_true ad
                have q527 : x7_2 < (t520.length : Int) := of_decide_eq_true ad
                obtain ⟨ad527, e527, hx527_0, hx527_1⟩ := at_T36 (Kd.R_reads' HO_6.out).2.2 x7_2 p527 q527
                cases e527
                replace p527 := eq_true p527
                replace q527 := eq_true q527
                have p529 : 0 ≤ (x7_2 : Int) := of_decide_eq_true ad
                have q529 : x7_2 < (t520.length : Int) := of_decide_eq_true ad
                obtain ⟨ad529, e529, hx529_0, hx529_1⟩ := at_T36 (Kd.R_reads' HO_6.out).2.2 x7_2 p529 q529
                obtain rfl : ad527 = ad529 := (by injection e529)
                replace p529 := eq_true p529
                replace q529 := eq_true q529
                have p531 : 0 ≤ (x7_2 : Int) := of_decide_eq_true ad
                have q531 : x7_2 < (t520.length : Int) := of_decide_eq_true ad
                obtain ⟨ad531, e531, hx531_0, hx531_1⟩ := at_T36 (Kd.R_reads' HO_6.out).2.2 x7_2 p531 q531
                obtain rfl : ad527 = ad531 := (by injection e531)
                replace p531 := eq_true p531
                replace q531 := eq_true q531
                have p532 : 0 ≤ (x7_2 : Int) := of_decide_eq_true ad
                have q532 : x7_2 < (t520.length : Int) := of_decide_eq_true ad
                obtain ⟨ad532, e532, hx532_0, hx532_1⟩ := at_T36 (Kd.R_reads' HO_6.out).2.2 x7_2 p532 q532
                obtain rfl : ad527 = ad532 := (by injection e532)
                replace p532 := eq_true p532
                replace q532 := eq_true q532
                have p533 : 0 ≤ ((ji31) : Int) := of_decide_eq_true ad
                have q533 : (ji31) < (t520.length : Int) := of_decide_eq_true ad
                obtain ⟨ad533, e533, hx533_0, hx533_1⟩ := at_T36 (Kd.R_reads' HO_6.out).2.2 (ji31) p533 q533
                obtain rfl : ad527 = ad533 := (by injection e533)
                replace p533 := eq_true p533
                replace q533 := eq_true q533
                have p534 : 0 ≤ (x7_2 : Int) := of_decide_eq_true ad
                have q534 : x7_2 < (t520.length : Int) := of_decide_eq_true ad
                obtain ⟨ad534, e534, hx534_0, hx534_1⟩ := at_T36 (Kd.R_reads' HO_6.out).2.2 x7_2 p534 q534
                obtain rfl : ad527 = ad534 := (by injection e534)
                replace p534 := eq_true p534
                replace q534 := eq_true q534
                have p535 : 0 ≤ ((ji31) : Int) := of_decide_eq_true ad
                have q535 : (ji31) < (t520.length : Int) := of_decide_eq_true ad
                obtain ⟨ad535, e535, hx535_0, hx535_1⟩ := at_T36 (Kd.R_reads' HO_6.out).2.2 (ji31) p535 q535
                obtain rfl : ad527 = ad535 := (by injection e535)
                replace p535 := eq_true p535
                replace q535 := eq_true q535
                have p536 : 0 ≤ (x7_2 : Int) := of_decide_eq_true ad
                have q536 : x7_2 < (t520.length : Int) := of_decide_eq_true ad
                obtain ⟨ad536, e536, hx536_0, hx536_1⟩ := at_T36 (Kd.R_reads' HO_6.out).2.2 x7_2 p536 q536
                obtain rfl : ad527 = ad536 := (by injection e536)
                replace p536 := eq_true p536
                replace q536 := eq_true q536
                refine st (n := 78) (S := fun w' => w'.cell? (ad527.add ((x7_2).toNat * 2)) = some (.string ((rd_T36 t520 x7_2).f0)) ∧ w'.cell? ⟨(ad527.add ((x7_2).toNat * 2)).block, (ad527.add ((x7_2).toNat * 2)).off + 1, none⟩ = some (.int .i64 ((rd_T36 t520 x7_2).f1)) ∧ w'.cell? (ad527.add ((x7_2).toNat * 2)) = some (.string ((rd_T36 t520 x7_2).f0)) ∧ w'.cell? ⟨(ad527.add ((x7_2).toNat * 2)).block, (ad527.add ((x7_2).toNat * 2)).off + 1, none⟩ = some (.int .i64 ((rd_T36 t520 x7_2).f1)) ∧ w'.cell? (ad527.add ((x7_2).toNat * 2)) = some (.string ((rd_T36 t520 x7_2).f0)) ∧ w'.cell? ⟨(ad527.add ((x7_2).toNat * 2)).block, (ad527.add ((x7_2).toNat * 2)).off + 1, none⟩ = some (.int .i64 ((rd_T36 t520 x7_2).f1)) ∧ w'.cell? (ad527.add ((x7_2).toNat * 2)) = some (.string ((rd_T36 t520 x7_2).f0)) ∧ w'.cell? ⟨(ad527.add ((x7_2).toNat * 2)).block, (ad527.add ((x7_2).toNat * 2)).off + 1, none⟩ = some (.int .i64 ((rd_T36 t520 x7_2).f1)) ∧ w'.cell? (ad527.add (((ji31)).toNat * 2)) = some (.string ((rd_T36 t520 (ji31)).f0)) ∧ w'.cell? ⟨(ad527.add (((ji31)).toNat * 2)).block, (ad527.add (((ji31)).toNat * 2)).off + 1, none⟩ = some (.int .i64 ((rd_T36 t520 (ji31)).f1)) ∧ w'.cell? (ad527.add ((x7_2).toNat * 2)) = some (.string ((rd_T36 t520 x7_2).f0)) ∧ w'.cell? ⟨(ad527.add ((x7_2).toNat * 2)).block, (ad527.add ((x7_2).toNat * 2)).off + 1, none⟩ = some (.int .i64 ((rd_T36 t520 x7_2).f1)) ∧ w'.cell? (ad527.add (((ji31)).toNat * 2)) = some (.string ((rd_T36 t520 (ji31)).f0)) ∧ w'.cell? ⟨(ad527.add (((ji31)).toNat * 2)).block, (ad527.add (((ji31)).toNat * 2)).off + 1, none⟩ = some (.int .i64 ((rd_T36 t520 (ji31)).f1)) ∧ w'.cell? (ad527.add ((x7_2).toNat * 2)) = some (.string ((rd_T36 t520 x7_2).f0)) ∧ w'.cell? ⟨(ad527.add ((x7_2).toNat * 2)).block, (ad527.add ((x7_2).toNat * 2)).off + 1, none⟩ = some (.int .i64 ((rd_T36 t520 x7_2).f1))) (ds := []) ⟨hx527_0, hx527_1, hx529_0, hx529_1, hx531_0, hx531_1, hx532_0, hx532_1, hx533_0, hx533_1, hx534_0, hx534_1, hx535_0, hx535_1, hx536_0, hx536_1⟩ (fun hHeld => ?_)
                refine with_tabW laws_FnGuesses.tab10 laws_FnGuesses.bits10 (fun HT_ HW_ => ?_)
                generalize wr.drew = w40 at HO_3 HO_6 HB hx527_0 hx527_1 hx529_0 hx529_1 hx531_0 hx531_1 hx532_0 hx532_1 hx533_0 hx533_1 hx534_0 hx534_1 hx535_0 hx535_1 hx536_0 hx536_1 hHeld ⊢
                refine pu 0 42 ?_
                refine pu 1 43 ?_
                refine pu 2 44 ?_
                refine pu 3 45 ?_
                refine pu 4 46 ?_
                refine take_ (i := 5) (N := some 47) (v := ?_) (a' := ?_) #[true, true, true, true, true, true, false, false, false, false, false, false, false, false, false, false, false, false, false, false, false, false, false, false, false, false, false, false, false, false, false, false, false, false, false, false, false, false, false, false, false, false, false, false, false, false, false, false, false, false, false, false, false, false, false, false, false, false, false, false, false, false, false, false, false, false, false, false, false, false, false, false, false, false, false, false, false, false] rfl rfl (take_ofW HT_.out HW_.out (by kernel_rfl)) (fun _ _ _ h => h) (Or.inl ⟨by rfl, ?_⟩) hHeld ?_ ?_
                rotate_left
                ·rintro w' ⟨s0, s1, s2, s3, s4, s5, s6, s7, s8, s9, s10, s11, s12, s13, s14, s15⟩
                 go_simp
                 with_reducible rfl
                rotate_left
                ·simp only [Act.put, List.setIfInBounds_toArray, List.set_cons_zero, List.set_cons_succ, i64_w, i32_w]
                 rfl
                refine on1 6 48 (fun K hK => ?_)
                refine goes_ Try.func22 (by kernel_rfl) rfl #[.slice Ao7 t515.length co7, .string ((rd_T36 t520 x7_2).f0)] (by rfl) rfl rfl mq ?_
                with_reducible refine (laws_mdHas.calls k2 _ _ t515 ((rd_T36 t520 x7_2).f0) true _ ?side1 ?side2 A23.out).mono ?_
                (case side1 => exact cq (Kd.R_reads' HO_3.out).2.2)
                (case side2 => exact (Kd.R_reads' HO_3.out).2.1)
                rintro e w' ⟨rfl, ⟨nd, rfl⟩⟩
                refine ⟨_, rfl, ?_⟩
                refine hK.out _ _ ⟨hHeld.1, hHeld.2.1, hHeld.2.2.1, hHeld.2.2.2.1, hHeld.2.2.2.2.1, hHeld.2.2.2.2.2.1, hHeld.2.2.2.2.2.2.1, hHeld.2.2.2.2.2.2.2.1, hHeld.2.2.2.2.2.2.2.2.1, hHeld.2.2.2.2.2.2.2.2.2.1, hHeld.2.2.2.2.2.2.2.2.2.2.1, hHeld.2.2.2.2.2.2.2.2.2.2.2.1, hHeld.2.2.2.2.2.2.2.2.2.2.2.2.1, hHeld.2.2.2.2.2.2.2.2.2.2.2.2.2.1, hHeld.2.2.2.2.2.2.2.2.2.2.2.2.2.2.1, hHeld.2.2.2.2.2.2.2.2.2.2.2.2.2.2.2⟩ (fun hHeld => ?_)
                clear hK K
                refine norm_ (a' := ?_) ?_ ?_
                rotate_left
                ·show Act.put _ (some 48) _ = _
                 simp only [Act.put, List.setIfInBounds_toArray, List.set_cons_zero, List.set_cons_succ, i64_w, i32_w]
                 rfl
                refine pu 7 49 ?_
                refine pu 8 50 ?_
                refine pu 9 51 ?_
                refine pu 10 52 ?_
                refine pu 11 53 ?_
                refine pu 12 54 ?_
                refine pu 14 56 ?_
                refine pu 16 58 ?_
                refine pu 17 59 ?_
                refine pu 18 60 ?_
                refine pu 19 61 ?_
                refine take_ (i := 13) (N := some 55) (v := ?_) (a' := ?_) #[true, true, true, true, true, true, true, true, true, true, true, true, true, true, true, false, true, true, true, true, false, false, false, false, false, false, false, false, false, false, false, false, false, false, false, false, false, false, false, false, false, false, false, false, false, false, false, false, false, false, false, false, false, false, false, false, false, false, false, false, false, false, false, false, false, false, false, false, false, false, false, false, false, false, false, false, false, false] rfl rfl (take_ofW HT_.out HW_.out (by kernel_rfl)) (fun _ _ _ h => h) (Or.inl ⟨by rfl, ?_⟩) hHeld ?_ ?_
                rotate_left
                ·rintro w' ⟨s0, s1, s2, s3, s4, s5, s6, s7, s8, s9, s10, s11, s12, s13, s14, s15⟩
                 go_simp
                 with_reducible rfl
                rotate_left
                ·simp only [Act.put, List.setIfInBounds_toArray, List.set_cons_zero, List.set_cons_succ, i64_w, i32_w]
                 rfl
                refine take_ (i := 20) (N := some 62) (v := ?_) (a' := ?_) #[true, true, true, true, true, true, true, true, true, true, true, true, true, true, true, false, true, true, true, true, true, false, false, false, false, false, false, false, false, false, false, false, false, false, false, false, false, false, false, false, false, false, false, false, false, false, false, false, false, false, false, false, false, false, false, false, false, false, false, false, false, false, false, false, false, false, false, false, false, false, false, false, false, false, false, false, false, false] rfl rfl (take_ofW HT_.out HW_.out (by kernel_rfl)) (fun _ _ _ h => h) (Or.inl ⟨by rfl, ?_⟩) hHeld ?_ ?_
                rotate_left
                ·rintro w' ⟨s0, s1, s2, s3, s4, s5, s6, s7, s8, s9, s10, s11, s12, s13, s14, s15⟩
                 go_simp
                 with_reducible rfl
                rotate_left
                ·simp only [Act.put, List.setIfInBounds_toArray, List.set_cons_zero, List.set_cons_succ, i64_w, i32_w]
                 rfl
                refine on1 15 57 (fun K hK => ?_)
                refine goes_ Try.func23 (by kernel_rfl) rfl #[.string ((rd_T36 t520 x7_2).f0), .string t516] (by rfl) rfl rfl mq ?_
                with_reducible refine (impl_Far.calls k2 ((rd_T36 t520 x7_2).f0) t516 t530 _ A25.out).mono ?_
                rintro e w41 ⟨rfl, hb⟩
                have HS0_ := (hb.cell (World.block_lt_of_cell? _ _ (hHeld.1))).trans (hHeld.1)
                have HS1_ := (hb.cell (World.block_lt_of_cell? _ _ (hHeld.2.1))).trans (hHeld.2.1)
                have HS2_ := (hb.cell (World.block_lt_of_cell? _ _ (hHeld.2.2.1))).trans (hHeld.2.2.1)
                have HS3_ := (hb.cell (World.block_lt_of_cell? _ _ (hHeld.2.2.2.1))).trans (hHeld.2.2.2.1)
                have HS4_ := (hb.cell (World.block_lt_of_cell? _ _ (hHeld.2.2.2.2.1))).trans (hHeld.2.2.2.2.1)
                have HS5_ := (hb.cell (World.block_lt_of_cell? _ _ (hHeld.2.2.2.2.2.1))).trans (hHeld.2.2.2.2.2.1)
                have HS6_ := (hb.cell (World.block_lt_of_cell? _ _ (hHeld.2.2.2.2.2.2.1))).trans (hHeld.2.2.2.2.2.2.1)
                have HS7_ := (hb.cell (World.block_lt_of_cell? _ _ (hHeld.2.2.2.2.2.2.2.1))).trans (hHeld.2.2.2.2.2.2.2.1)
                have HS8_ := (hb.cell (World.block_lt_of_cell? _ _ (hHeld.2.2.2.2.2.2.2.2.1))).trans (hHeld.2.2.2.2.2.2.2.2.1)
                have HS9_ := (hb.cell (World.block_lt_of_cell? _ _ (hHeld.2.2.2.2.2.2.2.2.2.1))).trans (hHeld.2.2.2.2.2.2.2.2.2.1)
                have HS10_ := (hb.cell (World.block_lt_of_cell? _ _ (hHeld.2.2.2.2.2.2.2.2.2.2.1))).trans (hHeld.2.2.2.2.2.2.2.2.2.2.1)
                have HS11_ := (hb.cell (World.block_lt_of_cell? _ _ (hHeld.2.2.2.2.2.2.2.2.2.2.2.1))).trans (hHeld.2.2.2.2.2.2.2.2.2.2.2.1)
                have HS12_ := (hb.cell (World.block_lt_of_cell? _ _ (hHeld.2.2.2.2.2.2.2.2.2.2.2.2.1))).trans (hHeld.2.2.2.2.2.2.2.2.2.2.2.2.1)
                have HS13_ := (hb.cell (World.block_lt_of_cell? _ _ (hHeld.2.2.2.2.2.2.2.2.2.2.2.2.2.1))).trans (hHeld.2.2.2.2.2.2.2.2.2.2.2.2.2.1)
                have HS14_ := (hb.cell (World.block_lt_of_cell? _ _ (hHeld.2.2.2.2.2.2.2.2.2.2.2.2.2.2.1))).trans (hHeld.2.2.2.2.2.2.2.2.2.2.2.2.2.2.1)
                have HS15_ := (hb.cell (World.block_lt_of_cell? _ _ (hHeld.2.2.2.2.2.2.2.2.2.2.2.2.2.2.2))).trans (hHeld.2.2.2.2.2.2.2.2.2.2.2.2.2.2.2)
                refine ⟨_, rfl, ?_⟩
                replace HO_3 := am (Kd.R_below (rq HO_3.out) hb)
                replace HO_6 := am (Kd.R_below (rq HO_6.out) hb)
                replace HB := am (below_step bel hb)
                (try clear hb)
                (try clear hb2)
                (try clear hk)
                (try clear hi)
                refine hK.out _ _ ⟨HS0_, HS1_, HS2_, HS3_, HS4_, HS5_, HS6_, HS7_, HS8_, HS9_, HS10_, HS11_, HS12_, HS13_, HS14_, HS15_⟩ (fun hHeld => ?_)
                clear hK K
                refine norm_ (a' := ?_) ?_ ?_
                rotate_left
                ·show Act.put _ (some 57) _ = _
                 simp only [Act.put, List.setIfInBounds_toArray, List.set_cons_zero, List.set_cons_succ, i64_w, i32_w]
                 rfl
                refine pu 21 63 ?_
                refine pu 22 64 ?_
                refine pu 23 65 ?_
                refine pu 24 66 ?_
                refine pu 25 67 ?_
                refine pu 26 68 ?_
                refine pu 27 69 ?_
                refine pu 29 71 ?_
                refine take_ (i := 28) (N := some 70) (v := ?_) (a' := ?_) #[true, true, true, true, true, true, true, true, true, true, true, true, true, true, true, true, true, true, true, true, true, true, true, true, true, true, true, true, true, true, false, false, false, false, false, false, false, false, false, false, false, false, false, false, false, false, false, false, false, false, false, false, false, false, false, false, false, false, false, false, false, false, false, false, false, false, false, false, false, false, false, false, false, false, false, false, false, false] rfl rfl (take_ofW HT_.out HW_.out (by kernel_rfl)) (fun _ _ _ h => h) (Or.inl ⟨by rfl, ?_⟩) hHeld ?_ ?_
                rotate_left
                ·rintro w' ⟨s0, s1, s2, s3, s4, s5, s6, s7, s8, s9, s10, s11, s12, s13, s14, s15⟩
                 go_simp
                 with_reducible rfl
                rotate_left
                ·simp only [Act.put, List.setIfInBounds_toArray, List.set_cons_zero, List.set_cons_succ, i64_w, i32_w]
                 rfl
                refine pu 30 72 ?_
                refine pu 31 73 ?_
                refine pu 32 74 ?_
                refine pu 33 75 ?_
                refine pu 34 76 ?_
                refine pu 35 77 ?_
                refine pu 36 78 ?_
                refine pu 37 79 ?_
                refine pu 38 80 ?_
                refine pu 39 81 ?_
                refine pu 40 82 ?_
                refine pu 42 84 ?_
                refine pu 43 85 ?_
                refine pu 44 86 ?_
                refine pu 45 87 ?_
                refine take_ (i := 41) (N := some 83) (v := ?_) (a' := ?_) #[true, true, true, true, true, true, true, true, true, true, true, true, true, true, true, true, true, true, true, true, true, true, true, true, true, true, true, true, true, true, true, true, true, true, true, true, true, true, true, true, true, true, true, true, true, true, false, false, false, false, false, false, false, false, false, false, false, false, false, false, false, false, false, false, false, false, false, false, false, false, false, false, false, false, false, false, false, false] rfl rfl (take_ofW HT_.out HW_.out (by kernel_rfl)) (fun _ _ _ h => h) (Or.inl ⟨by rfl, ?_⟩) hHeld ?_ ?_
                rotate_left
                ·rintro w' ⟨s0, s1, s2, s3, s4, s5, s6, s7, s8, s9, s10, s11, s12, s13, s14, s15⟩
                 go_simp
                 with_reducible rfl
                rotate_left
                ·simp only [Act.put, List.setIfInBounds_toArray, List.set_cons_zero, List.set_cons_succ, i64_w, i32_w]
                 rfl
                refine take_ (i := 46) (N := some 88) (v := ?_) (a' := ?_) #[true, true, true, true, true, true, true, true, true, true, true, true, true, true, true, true, true, true, true, true, true, true, true, true, true, true, true, true, true, true, true, true, true, true, true, true, true, true, true, true, true, true, true, true, true, true, true, false, false, false, false, false, false, false, false, false, false, false, false, false, false, false, false, false, false, false, false, false, false, false, false, false, false, false, false, false, false, false] rfl rfl (take_ofW HT_.out HW_.out (by kernel_rfl)) (fun _ _ _ h => h) (Or.inl ⟨by rfl, ?_⟩) hHeld ?_ ?_
                rotate_left
                ·rintro w' ⟨s0, s1, s2, s3, s4, s5, s6, s7, s8, s9, s10, s11, s12, s13, s14, s15⟩
                 go_simp
                 with_reducible rfl
                rotate_left
                ·simp only [Act.put, List.setIfInBounds_toArray, List.set_cons_zero, List.set_cons_succ, i64_w, i32_w]
                 rfl
                refine pu 47 89 ?_
                refine pu 48 90 ?_
                refine pu 49 91 ?_
                refine pu 50 92 ?_
                refine pu 51 93 ?_
                refine pu 52 94 ?_
                refine pu 53 95 ?_
                refine pu 55 97 ?_
                refine pu 56 98 ?_
                refine pu 57 99 ?_
                refine pu 58 100 ?_
                refine take_ (i := 54) (N := some 96) (v := ?_) (a' := ?_) #[true, true, true, true, true, true, true, true, true, true, true, true, true, true, true, true, true, true, true, true, true, true, true, true, true, true, true, true, true, true, true, true, true, true, true, true, true, true, true, true, true, true, true, true, true, true, true, true, true, true, true, true, true, true, true, true, true, true, true, false, false, false, false, false, false, false, false, false, false, false, false, false, false, false, false, false, false, false] rfl rfl (take_ofW HT_.out HW_.out (by kernel_rfl)) (fun _ _ _ h => h) (Or.inl ⟨by rfl, ?_⟩) hHeld ?_ ?_
                rotate_left
                ·rintro w' ⟨s0, s1, s2, s3, s4, s5, s6, s7, s8, s9, s10, s11, s12, s13, s14, s15⟩
                 go_simp
                 with_reducible rfl
                rotate_left
                ·simp only [Act.put, List.setIfInBounds_toArray, List.set_cons_zero, List.set_cons_succ, i64_w, i32_w]
                 rfl
                refine take_ (i := 59) (N := some 101) (v := ?_) (a' := ?_) #[true, true, true, true, true, true, true, true, true, true, true, true, true, true, true, true, true, true, true, true, true, true, true, true, true, true, true, true, true, true, true, true, true, true, true, true, true, true, true, true, true, true, true, true, true, true, true, true, true, true, true, true, true, true, true, true, true, true, true, true, false, false, false, false, false, false, false, false, false, false, false, false, false, false, false, false, false, false] rfl rfl (take_ofW HT_.out HW_.out (by kernel_rfl)) (fun _ _ _ h => h) (Or.inl ⟨by rfl, ?_⟩) hHeld ?_ ?_
                rotate_left
                ·rintro w' ⟨s0, s1, s2, s3, s4, s5, s6, s7, s8, s9, s10, s11, s12, s13, s14, s15⟩
                 go_simp
                 with_reducible rfl
                rotate_left
                ·simp only [Act.put, List.setIfInBounds_toArray, List.set_cons_zero, List.set_cons_succ, i64_w, i32_w]
                 rfl
                refine pu 60 102 ?_
                refine pu 61 103 ?_
                refine puu 62 104 ?_
                refine puu 63 105 ?_
                refine puu 64 106 ?_
                refine puu 65 107 ?_
                refine puu 66 108 ?_
                refine puu 67 109 ?_
                refine puu 68 110 ?_
                refine puu 69 111 ?_
                refine puu 70 112 ?_
                refine puu 71 113 ?_
                refine puu 72 114 ?_
                refine puu 73 115 ?_
                refine pu 74 116 ?_
                refine pu 75 117 ?_
                refine pu 76 118 ?_
                refine pu 77 119 ?_
                refine done_ (done_of HT_.out (by kernel_rfl)) ?_
                try go_wp2
                go_meet
                case rel => exact ⟨_, (false), sq, H', ⟨b37_⟩, ⟨rq HO_3.out⟩, ⟨rq HO_6.out⟩, ⟨bel⟩⟩
              rw [if_neg c30] at H
              have c30b0 := decide_eq_false c30
              clear c30
              have H' := am H
              clear H
              as_aux_lemma =>
               try go_wp2
               replace HO_3 := am (Kd.R_drew HO_3.out)
               replace HO_6 := am (Kd.R_drew HO_6.out)
               replace HB := am (below_drew1 HB.out)
               have p527 : 0 ≤ (x7_2 : Int) := of_decide_eq_true ad
               have q527 : x7_2 < (t520.length : Int) := of_decide_eq_true ad
               obtain ⟨ad527, e527, hx527_0, hx527_1⟩ := at_T36 (Kd.R_reads' HO_6.out).2.2 x7_2 p527 q527
               cases e527
               replace p527 := eq_true p527
               replace q527 := eq_true q527
               have p529 : 0 ≤ (x7_2 : Int) := of_decide_eq_true ad
               have q529 : x7_2 < (t520.length : Int) := of_decide_eq_true ad
               obtain ⟨ad529, e529, hx529_0, hx529_1⟩ := at_T36 (Kd.R_reads' HO_6.out).2.2 x7_2 p529 q529
               obtain rfl : ad527 = ad529 := (by injection e529)
               replace p529 := eq_true p529
               replace q529 := eq_true q529
               have p531 : 0 ≤ (x7_2 : Int) := of_decide_eq_true ad
               have q531 : x7_2 < (t520.length : Int) := of_decide_eq_true ad
               obtain ⟨ad531, e531, hx531_0, hx531_1⟩ := at_T36 (Kd.R_reads' HO_6.out).2.2 x7_2 p531 q531
               obtain rfl : ad527 = ad531 := (by injection e531)
               replace p531 := eq_true p531
               replace q531 := eq_true q531
               have p532 : 0 ≤ (x7_2 : Int) := of_decide_eq_true ad
               have q532 : x7_2 < (t520.length : Int) := of_decide_eq_true ad
               obtain ⟨ad532, e532, hx532_0, hx532_1⟩ := at_T36 (Kd.R_reads' HO_6.out).2.2 x7_2 p532 q532
               obtain rfl : ad527 = ad532 := (by injection e532)
               replace p532 := eq_true p532
               replace q532 := eq_true q532
               refine st (n := 78) (S := fun w' => w'.cell? (ad527.add ((x7_2).toNat * 2)) = some (.string ((rd_T36 t520 x7_2).f0)) ∧ w'.cell? ⟨(ad527.add ((x7_2).toNat * 2)).block, (ad527.add ((x7_2).toNat * 2)).off + 1, none⟩ = some (.int .i64 ((rd_T36 t520 x7_2).f1)) ∧ w'.cell? (ad527.add ((x7_2).toNat * 2)) = some (.string ((rd_T36 t520 x7_2).f0)) ∧ w'.cell? ⟨(ad527.add ((x7_2).toNat * 2)).block, (ad527.add ((x7_2).toNat * 2)).off + 1, none⟩ = some (.int .i64 ((rd_T36 t520 x7_2).f1)) ∧ w'.cell? (ad527.add ((x7_2).toNat * 2)) = some (.string ((rd_T36 t520 x7_2).f0)) ∧ w'.cell? ⟨(ad527.add ((x7_2).toNat * 2)).block, (ad527.add ((x7_2).toNat * 2)).off + 1, none⟩ = some (.int .i64 ((rd_T36 t520 x7_2).f1)) ∧ w'.cell? (ad527.add ((x7_2).toNat * 2)) = some (.string ((rd_T36 t520 x7_2).f0)) ∧ w'.cell? ⟨(ad527.add ((x7_2).toNat * 2)).block, (ad527.add ((x7_2).toNat * 2)).off + 1, none⟩ = some (.int .i64 ((rd_T36 t520 x7_2).f1))) (ds := []) ⟨hx527_0, hx527_1, hx529_0, hx529_1, hx531_0, hx531_1, hx532_0, hx532_1⟩ (fun hHeld => ?_)
               refine with_tabW laws_FnGuesses.tab10 laws_FnGuesses.bits10 (fun HT_ HW_ => ?_)
               generalize wr.drew = w42 at HO_3 HO_6 HB hx527_0 hx527_1 hx529_0 hx529_1 hx531_0 hx531_1 hx532_0 hx532_1 hHeld ⊢
               refine pu 0 42 ?_
               refine pu 1 43 ?_
               refine pu 2 44 ?_
               refine pu 3 45 ?_
               refine pu 4 46 ?_
               refine take_ (i := 5) (N := some 47) (v := ?_) (a' := ?_) #[true, true, true, true, true, true, false, false, false, false, false, false, false, false, false, false, false, false, false, false, false, false, false, false, false, false, false, false, false, false, false, false, false, false, false, false, false, false, false, false, false, false, false, false, false, false, false, false, false, false, false, false, false, false, false, false, false, false, false, false, false, false, false, false, false, false, false, false, false, false, false, false, false, false, false, false, false, false] rfl rfl (take_ofW HT_.out HW_.out (by kernel_rfl)) (fun _ _ _ h => h) (Or.inl ⟨by rfl, ?_⟩) hHeld ?_ ?_
               rotate_left
               ·rintro w' ⟨s0, s1, s2, s3, s4, s5, s6, s7⟩
                go_simp
                with_reducible rfl
               rotate_left
               ·simp only [Act.put, List.setIfInBounds_toArray, List.set_cons_zero, List.set_cons_succ, i64_w, i32_w]
                rfl
               refine on1 6 48 (fun K hK => ?_)
               refine goes_ Try.func22 (by kernel_rfl) rfl #[.slice Ao7 t515.length co7, .string ((rd_T36 t520 x7_2).f0)] (by rfl) rfl rfl mq ?_
               with_reducible refine (laws_mdHas.calls k2 _ _ t515 ((rd_T36 t520 x7_2).f0) true _ ?side1 ?side2 A23.out).mono ?_
               (case side1 => exact cq (Kd.R_reads' HO_3.out).2.2)
               (case side2 => exact (Kd.R_reads' HO_3.out).2.1)
               rintro e w' ⟨rfl, ⟨nd, rfl⟩⟩
               refine ⟨_, rfl, ?_⟩
               refine hK.out _ _ ⟨hHeld.1, hHeld.2.1, hHeld.2.2.1, hHeld.2.2.2.1, hHeld.2.2.2.2.1, hHeld.2.2.2.2.2.1, hHeld.2.2.2.2.2.2.1, hHeld.2.2.2.2.2.2.2⟩ (fun hHeld => ?_)
               clear hK K
               refine norm_ (a' := ?_) ?_ ?_
               rotate_left
               ·show Act.put _ (some 48) _ = _
                simp only [Act.put, List.setIfInBounds_toArray, List.set_cons_zero, List.set_cons_succ, i64_w, i32_w]
                rfl
               refine pu 7 49 ?_
               refine pu 8 50 ?_
               refine pu 9 51 ?_
               refine pu 10 52 ?_
               refine pu 11 53 ?_
               refine pu 12 54 ?_
               refine pu 14 56 ?_
               refine pu 16 58 ?_
               refine pu 17 59 ?_
               refine pu 18 60 ?_
               refine pu 19 61 ?_
               refine take_ (i := 13) (N := some 55) (v := ?_) (a' := ?_) #[true, true, true, true, true, true, true, true, true, true, true, true, true, true, true, false, true, true, true, true, false, false, false, false, false, false, false, false, false, false, false, false, false, false, false, false, false, false, false, false, false, false, false, false, false, false, false, false, false, false, false, false, false, false, false, false, false, false, false, false, false, false, false, false, false, false, false, false, false, false, false, false, false, false, false, false, false, false] rfl rfl (take_ofW HT_.out HW_.out (by kernel_rfl)) (fun _ _ _ h => h) (Or.inl ⟨by rfl, ?_⟩) hHeld ?_ ?_
               rotate_left
               ·rintro w' ⟨s0, s1, s2, s3, s4, s5, s6, s7⟩
                go_simp
                with_reducible rfl
               rotate_left
               ·simp only [Act.put, List.setIfInBounds_toArray, List.set_cons_zero, List.set_cons_succ, i64_w, i32_w]
                rfl
               refine take_ (i := 20) (N := some 62) (v := ?_) (a' := ?_) #[true, true, true, true, true, true, true, true, true, true, true, true, true, true, true, false, true, true, true, true, true, false, false, false, false, false, false, false, false, false, false, false, false, false, false, false, false, false, false, false, false, false, false, false, false, false, false, false, false, false, false, false, false, false, false, false, false, false, false, false, false, false, false, false, false, false, false, false, false, false, false, false, false, false, false, false, false, false] rfl rfl (take_ofW HT_.out HW_.out (by kernel_rfl)) (fun _ _ _ h => h) (Or.inl ⟨by rfl, ?_⟩) hHeld ?_ ?_
               rotate_left
               ·rintro w' ⟨s0, s1, s2, s3, s4, s5, s6, s7⟩
                go_simp
                with_reducible rfl
               rotate_left
               ·simp only [Act.put, List.setIfInBounds_toArray, List.set_cons_zero, List.set_cons_succ, i64_w, i32_w]
                rfl
               refine on1 15 57 (fun K hK => ?_)
               refine goes_ Try.func23 (by kernel_rfl) rfl #[.string ((rd_T36 t520 x7_2).f0), .string t516] (by rfl) rfl rfl mq ?_
               with_reducible refine (impl_Far.calls k2 ((rd_T36 t520 x7_2).f0) t516 t530 _ A25.out).mono ?_
               rintro e w43 ⟨rfl, hb⟩
               have HS0_ := (hb.cell (World.block_lt_of_cell? _ _ (hHeld.1))).trans (hHeld.1)
               have HS1_ := (hb.cell (World.block_lt_of_cell? _ _ (hHeld.2.1))).trans (hHeld.2.1)
               have HS2_ := (hb.cell (World.block_lt_of_cell? _ _ (hHeld.2.2.1))).trans (hHeld.2.2.1)
               have HS3_ := (hb.cell (World.block_lt_of_cell? _ _ (hHeld.2.2.2.1))).trans (hHeld.2.2.2.1)
               have HS4_ := (hb.cell (World.block_lt_of_cell? _ _ (hHeld.2.2.2.2.1))).trans (hHeld.2.2.2.2.1)
               have HS5_ := (hb.cell (World.block_lt_of_cell? _ _ (hHeld.2.2.2.2.2.1))).trans (hHeld.2.2.2.2.2.1)
               have HS6_ := (hb.cell (World.block_lt_of_cell? _ _ (hHeld.2.2.2.2.2.2.1))).trans (hHeld.2.2.2.2.2.2.1)
               have HS7_ := (hb.cell (World.block_lt_of_cell? _ _ (hHeld.2.2.2.2.2.2.2))).trans (hHeld.2.2.2.2.2.2.2)
               refine ⟨_, rfl, ?_⟩
               replace HO_3 := am (Kd.R_below (rq HO_3.out) hb)
               replace HO_6 := am (Kd.R_below (rq HO_6.out) hb)
               replace HB := am (below_step bel hb)
               (try clear hb)
               (try clear hb2)
               (try clear hk)
               (try clear hi)
               refine hK.out _ _ ⟨HS0_, HS1_, HS2_, HS3_, HS4_, HS5_, HS6_, HS7_⟩ (fun hHeld => ?_)
               clear hK K
               refine norm_ (a' := ?_) ?_ ?_
               rotate_left
               ·show Act.put _ (some 57) _ = _
                simp only [Act.put, List.setIfInBounds_toArray, List.set_cons_zero, List.set_cons_succ, i64_w, i32_w]
                rfl
               refine pu 21 63 ?_
               refine pu 22 64 ?_
               refine pu 23 65 ?_
               refine pu 24 66 ?_
               refine pu 25 67 ?_
               refine pu 26 68 ?_
               refine pu 27 69 ?_
               refine pu 29 71 ?_
               refine take_ (i := 28) (N := some 70) (v := ?_) (a' := ?_) #[true, true, true, true, true, true, true, true, true, true, true, true, true, true, true, true, true, true, true, true, true, true, true, true, true, true, true, true, true, true, false, false, false, false, false, false, false, false, false, false, false, false, false, false, false, false, false, false, false, false, false, false, false, false, false, false, false, false, false, false, false, false, false, false, false, false, false, false, false, false, false, false, false, false, false, false, false, false] rfl rfl (take_ofW HT_.out HW_.out (by kernel_rfl)) (fun _ _ _ h => h) (Or.inl ⟨by rfl, ?_⟩) hHeld ?_ ?_
               rotate_left
               ·rintro w' ⟨s0, s1, s2, s3, s4, s5, s6, s7⟩
                go_simp
                with_reducible rfl
               rotate_left
               ·simp only [Act.put, List.setIfInBounds_toArray, List.set_cons_zero, List.set_cons_succ, i64_w, i32_w]
                rfl
               refine pu 30 72 ?_
               refine pu 31 73 ?_
               refine pu 32 74 ?_
               refine pu 33 75 ?_
               refine pu 34 76 ?_
               refine pu 35 77 ?_
               refine puu 36 78 ?_
               refine puu 37 79 ?_
               refine puu 38 80 ?_
               refine puu 39 81 ?_
               refine puu 40 82 ?_
               refine puu 41 83 ?_
               refine puu 42 84 ?_
               refine puu 43 85 ?_
               refine puu 44 86 ?_
               refine puu 45 87 ?_
               refine puu 46 88 ?_
               refine puu 47 89 ?_
               refine puu 48 90 ?_
               refine puu 49 91 ?_
               refine puu 50 92 ?_
               refine puu 51 93 ?_
               refine puu 52 94 ?_
               refine puu 53 95 ?_
               refine puu 54 96 ?_
               refine puu 55 97 ?_
               refine puu 56 98 ?_
               refine puu 57 99 ?_
               refine puu 58 100 ?_
               refine puu 59 101 ?_
               refine puu 60 102 ?_
               refine puu 61 103 ?_
               refine puu 62 104 ?_
               refine puu 63 105 ?_
               refine puu 64 106 ?_
               refine puu 65 107 ?_
               refine puu 66 108 ?_
               refine puu 67 109 ?_
               refine puu 68 110 ?_
               refine puu 69 111 ?_
               refine puu 70 112 ?_
               refine puu 71 113 ?_
               refine puu 72 114 ?_
               refine puu 73 115 ?_
               refine puu 74 116 ?_
               refine puu 75 117 ?_
               refine pu 76 118 ?_
               refine pu 77 119 ?_
               refine done_ (done_of HT_.out (by kernel_rfl)) ?_
               try go_wp2
               go_meet
               case rel => exact ⟨_, (false), sq, H', ⟨b37_⟩, ⟨rq HO_3.out⟩, ⟨rq HO_6.out⟩, ⟨bel⟩⟩
             rw [if_neg c26] at H
             have c26b0 : (t530 == ((rd_T36 t520 x7_2).f1)) = false := beq_eq_false_iff_ne.mpr c26
             have c26b1 : (t530 != ((rd_T36 t520 x7_2).f1)) = true := bne_iff_ne.mpr c26
             have H' := am H
             clear H
             as_aux_lemma =>
              try go_wp2
              replace HO_3 := am (Kd.R_drew HO_3.out)
              replace HO_6 := am (Kd.R_drew HO_6.out)
              replace HB := am (below_drew1 HB.out)
              have p527 : 0 ≤ (x7_2 : Int) := of_decide_eq_true ad
              have q527 : x7_2 < (t520.length : Int) := of_decide_eq_true ad
              obtain ⟨ad527, e527, hx527_0, hx527_1⟩ := at_T36 (Kd.R_reads' HO_6.out).2.2 x7_2 p527 q527
              cases e527
              replace p527 := eq_true p527
              replace q527 := eq_true q527
              have p529 : 0 ≤ (x7_2 : Int) := of_decide_eq_true ad
              have q529 : x7_2 < (t520.length : Int) := of_decide_eq_true ad
              obtain ⟨ad529, e529, hx529_0, hx529_1⟩ := at_T36 (Kd.R_reads' HO_6.out).2.2 x7_2 p529 q529
              obtain rfl : ad527 = ad529 := (by injection e529)
              replace p529 := eq_true p529
              replace q529 := eq_true q529
              have p531 : 0 ≤ (x7_2 : Int) := of_decide_eq_true ad
              have q531 : x7_2 < (t520.length : Int) := of_decide_eq_true ad
              obtain ⟨ad531, e531, hx531_0, hx531_1⟩ := at_T36 (Kd.R_reads' HO_6.out).2.2 x7_2 p531 q531
              obtain rfl : ad527 = ad531 := (by injection e531)
              replace p531 := eq_true p531
              replace q531 := eq_true q531
              refine st (n := 78) (S := fun w' => w'.cell? (ad527.add ((x7_2).toNat * 2)) = some (.string ((rd_T36 t520 x7_2).f0)) ∧ w'.cell? ⟨(ad527.add ((x7_2).toNat * 2)).block, (ad527.add ((x7_2).toNat * 2)).off + 1, none⟩ = some (.int .i64 ((rd_T36 t520 x7_2).f1)) ∧ w'.cell? (ad527.add ((x7_2).toNat * 2)) = some (.string ((rd_T36 t520 x7_2).f0)) ∧ w'.cell? ⟨(ad527.add ((x7_2).toNat * 2)).block, (ad527.add ((x7_2).toNat * 2)).off + 1, none⟩ = some (.int .i64 ((rd_T36 t520 x7_2).f1)) ∧ w'.cell? (ad527.add ((x7_2).toNat * 2)) = some (.string ((rd_T36 t520 x7_2).f0)) ∧ w'.cell? ⟨(ad527.add ((x7_2).toNat * 2)).block, (ad527.add ((x7_2).toNat * 2)).off + 1, none⟩ = some (.int .i64 ((rd_T36 t520 x7_2).f1))) (ds := []) ⟨hx527_0, hx527_1, hx529_0, hx529_1, hx531_0, hx531_1⟩ (fun hHeld => ?_)
              refine with_tabW laws_FnGuesses.tab10 laws_FnGuesses.bits10 (fun HT_ HW_ => ?_)
              generalize wr.drew = w44 at HO_3 HO_6 HB hx527_0 hx527_1 hx529_0 hx529_1 hx531_0 hx531_1 hHeld ⊢
              refine pu 0 42 ?_
              refine pu 1 43 ?_
              refine pu 2 44 ?_
              refine pu 3 45 ?_
              refine pu 4 46 ?_
              refine tk6 5 47 hHeld ?_
              refine on1 6 48 (fun K hK => ?_)
              refine goes_ Try.func22 (by kernel_rfl) rfl #[.slice Ao7 t515.length co7, .string ((rd_T36 t520 x7_2).f0)] (by rfl) rfl rfl mq ?_
              with_reducible refine (laws_mdHas.calls k2 _ _ t515 ((rd_T36 t520 x7_2).f0) true _ ?side1 ?side2 A23.out).mono ?_
              (case side1 => exact cq (Kd.R_reads' HO_3.out).2.2)
              (case side2 => exact (Kd.R_reads' HO_3.out).2.1)
              rintro e w' ⟨rfl, ⟨nd, rfl⟩⟩
              refine ⟨_, rfl, ?_⟩
              refine hK.out _ _ ⟨hHeld.1, hHeld.2.1, hHeld.2.2.1, hHeld.2.2.2.1, hHeld.2.2.2.2.1, hHeld.2.2.2.2.2⟩ (fun hHeld => ?_)
              clear hK K
              refine norm_ (a' := ?_) ?_ ?_
              rotate_left
              ·show Act.put _ (some 48) _ = _
               simp only [Act.put, List.setIfInBounds_toArray, List.set_cons_zero, List.set_cons_succ, i64_w, i32_w]
               rfl
              refine pu 7 49 ?_
              refine pu 8 50 ?_
              refine pu 9 51 ?_
              refine pu 10 52 ?_
              refine pu 11 53 ?_
              refine pu 12 54 ?_
              refine pu 14 56 ?_
              refine pu 16 58 ?_
              refine pu 17 59 ?_
              refine pu 18 60 ?_
              refine pu 19 61 ?_
              refine tk6 13 55 hHeld ?_
              refine tk6 20 62 hHeld ?_
              refine on1 15 57 (fun K hK => ?_)
              refine goes_ Try.func23 (by kernel_rfl) rfl #[.string ((rd_T36 t520 x7_2).f0), .string t516] (by rfl) rfl rfl mq ?_
              with_reducible refine (impl_Far.calls k2 ((rd_T36 t520 x7_2).f0) t516 t530 _ A25.out).mono ?_
              rintro e w45 ⟨rfl, hb⟩
              have HS0_ := (hb.cell (World.block_lt_of_cell? _ _ (hHeld.1))).trans (hHeld.1)
              have HS1_ := (hb.cell (World.block_lt_of_cell? _ _ (hHeld.2.1))).trans (hHeld.2.1)
              have HS2_ := (hb.cell (World.block_lt_of_cell? _ _ (hHeld.2.2.1))).trans (hHeld.2.2.1)
              have HS3_ := (hb.cell (World.block_lt_of_cell? _ _ (hHeld.2.2.2.1))).trans (hHeld.2.2.2.1)
              have HS4_ := (hb.cell (World.block_lt_of_cell? _ _ (hHeld.2.2.2.2.1))).trans (hHeld.2.2.2.2.1)
              have HS5_ := (hb.cell (World.block_lt_of_cell? _ _ (hHeld.2.2.2.2.2))).trans (hHeld.2.2.2.2.2)
              refine ⟨_, rfl, ?_⟩
              replace HO_3 := am (Kd.R_below (rq HO_3.out) hb)
              replace HO_6 := am (Kd.R_below (rq HO_6.out) hb)
              replace HB := am (below_step bel hb)
              (try clear hb)
              (try clear hb2)
              (try clear hk)
              (try clear hi)
              refine hK.out _ _ ⟨HS0_, HS1_, HS2_, HS3_, HS4_, HS5_⟩ (fun hHeld => ?_)
              clear hK K
              refine norm_ (a' := ?_) ?_ ?_
              rotate_left
              ·show Act.put _ (some 57) _ = _
               simp only [Act.put, List.setIfInBounds_toArray, List.set_cons_zero, List.set_cons_succ, i64_w, i32_w]
               rfl
              refine pu 21 63 ?_
              refine pu 22 64 ?_
              refine pu 23 65 ?_
              refine puu 24 66 ?_
              refine puu 25 67 ?_
              refine puu 26 68 ?_
              refine puu 27 69 ?_
              refine puu 28 70 ?_
              refine puu 29 71 ?_
              refine puu 30 72 ?_
              refine pu 31 73 ?_
              refine pu 32 74 ?_
              refine puu 33 75 ?_
              refine puu 34 76 ?_
              refine puu 35 77 ?_
              refine puu 36 78 ?_
              refine puu 37 79 ?_
              refine puu 38 80 ?_
              refine puu 39 81 ?_
              refine puu 40 82 ?_
              refine puu 41 83 ?_
              refine puu 42 84 ?_
              refine puu 43 85 ?_
              refine puu 44 86 ?_
              refine puu 45 87 ?_
              refine puu 46 88 ?_
              refine puu 47 89 ?_
              refine puu 48 90 ?_
              refine puu 49 91 ?_
              refine puu 50 92 ?_
              refine puu 51 93 ?_
              refine puu 52 94 ?_
              refine puu 53 95 ?_
              refine puu 54 96 ?_
              refine puu 55 97 ?_
              refine puu 56 98 ?_
              refine puu 57 99 ?_
              refine puu 58 100 ?_
              refine puu 59 101 ?_
              refine puu 60 102 ?_
              refine puu 61 103 ?_
              refine puu 62 104 ?_
              refine puu 63 105 ?_
              refine puu 64 106 ?_
              refine puu 65 107 ?_
              refine puu 66 108 ?_
              refine puu 67 109 ?_
              refine puu 68 110 ?_
              refine puu 69 111 ?_
              refine puu 70 112 ?_
              refine puu 71 113 ?_
              refine puu 72 114 ?_
              refine puu 73 115 ?_
              refine puu 74 116 ?_
              refine puu 75 117 ?_
              refine puu 76 118 ?_
              refine pu 77 119 ?_
              refine done_ (done_of HT_.out (by kernel_rfl)) ?_
              try go_wp2
              go_meet
              case rel => exact ⟨_, (true), sq, H', ⟨b37_⟩, ⟨rq HO_3.out⟩, ⟨rq HO_6.out⟩, ⟨bel⟩⟩
            replace c24 := Bool.eq_false_iff.mpr c24
            subst c24
            have H1 : (laws_FnGuesses.j2 k2 t515 t516 t517 t520 x7_2 true) = some r := b7_
            replace H := H1
            clear H1
            have H' := am H
            clear H
            as_aux_lemma =>
             try go_wp2
             replace HO_3 := am (Kd.R_drew HO_3.out)
             replace HO_6 := am (Kd.R_drew HO_6.out)
             replace HB := am (below_drew1 HB.out)
             have p527 : 0 ≤ (x7_2 : Int) := of_decide_eq_true ad
             have q527 : x7_2 < (t520.length : Int) := of_decide_eq_true ad
             obtain ⟨ad527, e527, hx527_0, hx527_1⟩ := at_T36 (Kd.R_reads' HO_6.out).2.2 x7_2 p527 q527
             cases e527
             replace p527 := eq_true p527
             replace q527 := eq_true q527
             refine st (n := 78) (S := fun w' => w'.cell? (ad527.add ((x7_2).toNat * 2)) = some (.string ((rd_T36 t520 x7_2).f0)) ∧ w'.cell? ⟨(ad527.add ((x7_2).toNat * 2)).block, (ad527.add ((x7_2).toNat * 2)).off + 1, none⟩ = some (.int .i64 ((rd_T36 t520 x7_2).f1))) (ds := []) ⟨hx527_0, hx527_1⟩ (fun hHeld => ?_)
             refine with_tabW laws_FnGuesses.tab10 laws_FnGuesses.bits10 (fun HT_ HW_ => ?_)
             generalize wr.drew = w46 at HO_3 HO_6 HB hx527_0 hx527_1 hHeld ⊢
             refine pu 0 42 ?_
             refine pu 1 43 ?_
             refine pu 2 44 ?_
             refine pu 3 45 ?_
             refine pu 4 46 ?_
             refine tk2 5 47 hHeld ?_
             refine on1 6 48 (fun K hK => ?_)
             refine goes_ Try.func22 (by kernel_rfl) rfl #[.slice Ao7 t515.length co7, .string ((rd_T36 t520 x7_2).f0)] (by rfl) rfl rfl mq ?_
             with_reducible refine (laws_mdHas.calls k2 _ _ t515 ((rd_T36 t520 x7_2).f0) false _ ?side1 ?side2 A23.out).mono ?_
             (case side1 => exact cq (Kd.R_reads' HO_3.out).2.2)
             (case side2 => exact (Kd.R_reads' HO_3.out).2.1)
             rintro e w' ⟨rfl, ⟨nd, rfl⟩⟩
             refine ⟨_, rfl, ?_⟩
             refine hK.out _ _ ⟨hHeld.1, hHeld.2⟩ (fun hHeld => ?_)
             clear hK K
             refine norm_ (a' := ?_) ?_ ?_
             rotate_left
             ·show Act.put _ (some 48) _ = _
              simp only [Act.put, List.setIfInBounds_toArray, List.set_cons_zero, List.set_cons_succ, i64_w, i32_w]
              rfl
             refine pu 7 49 ?_
             refine pu 8 50 ?_
             refine puu 9 51 ?_
             refine puu 10 52 ?_
             refine puu 11 53 ?_
             refine puu 12 54 ?_
             refine puu 13 55 ?_
             refine puu 14 56 ?_
             refine puu 15 57 ?_
             refine puu 16 58 ?_
             refine puu 17 59 ?_
             refine puu 18 60 ?_
             refine puu 19 61 ?_
             refine puu 20 62 ?_
             refine puu 21 63 ?_
             refine pu 22 64 ?_
             refine pu 23 65 ?_
             refine puu 24 66 ?_
             refine puu 25 67 ?_
             refine puu 26 68 ?_
             refine puu 27 69 ?_
             refine puu 28 70 ?_
             refine puu 29 71 ?_
             refine puu 30 72 ?_
             refine pu 31 73 ?_
             refine pu 32 74 ?_
             refine puu 33 75 ?_
             refine puu 34 76 ?_
             refine puu 35 77 ?_
             refine puu 36 78 ?_
             refine puu 37 79 ?_
             refine puu 38 80 ?_
             refine puu 39 81 ?_
             refine puu 40 82 ?_
             refine puu 41 83 ?_
             refine puu 42 84 ?_
             refine puu 43 85 ?_
             refine puu 44 86 ?_
             refine puu 45 87 ?_
             refine puu 46 88 ?_
             refine puu 47 89 ?_
             refine puu 48 90 ?_
             refine puu 49 91 ?_
             refine puu 50 92 ?_
             refine puu 51 93 ?_
             refine puu 52 94 ?_
             refine puu 53 95 ?_
             refine puu 54 96 ?_
             refine puu 55 97 ?_
             refine puu 56 98 ?_
             refine puu 57 99 ?_
             refine puu 58 100 ?_
             refine puu 59 101 ?_
             refine puu 60 102 ?_
             refine puu 61 103 ?_
             refine puu 62 104 ?_
             refine puu 63 105 ?_
             refine puu 64 106 ?_
             refine puu 65 107 ?_
             refine puu 66 108 ?_
             refine puu 67 109 ?_
             refine puu 68 110 ?_
             refine puu 69 111 ?_
             refine puu 70 112 ?_
             refine puu 71 113 ?_
             refine puu 72 114 ?_
             refine puu 73 115 ?_
             refine puu 74 116 ?_
             refine puu 75 117 ?_
             refine puu 76 118 ?_
             refine pu 77 119 ?_
             refine done_ (done_of HT_.out (by kernel_rfl)) ?_
             try go_wp2
             go_meet
             case rel => exact ⟨_, (true), sq, H', ⟨b37_⟩, ⟨rq HO_3.out⟩, ⟨rq HO_6.out⟩, ⟨bel⟩⟩
           case rest =>
            clear HC20
            (try clear c2)
            (try clear p2)
            (try clear p5)
            (try clear q5)
            (try clear hx5)
            (try clear c22)
            (try clear c24)
            (try clear hx527_0)
            (try clear hx527_1)
            (try clear p527)
            (try clear q527)
            obtain ⟨kq, x119_19, rfl, HA, HJ19, HO_3, HO_6, HB⟩ := hcut
            cases kq with
            | zero => exact absurd HA.out (by simp [laws_FnGuesses.j2])
            | succ kj19 =>
             have H := HA.out
             clear HA
             simp only [laws_FnGuesses.j2] at H
             by_cases c47 : x119_19 = true
             ·subst c47
              have H1 : (some false) = some r := b19_
              replace H := H1
              clear H1
              obtain rfl := Option.some.inj H
              go_wp2
              go_ret
              exact ⟨eq_, bel⟩
             replace c47 := Bool.eq_false_iff.mpr c47
             subst c47
             have H1 : (laws_FnGuesses.l0 kj19 t515 t516 t517 t520 (wrap64 (x7_2 + 1))) = some r := b7_
             replace H := H1
             clear H1
             have H' := am H
             clear H
             go_wp2
             go_roundg kj19
             case measure => have := HJ4.out; have := HK2.out; have := HJ19.out; omega
             case rel => exact ⟨(wrap64 (x7_2 + 1)), sq, H', ⟨by have := HJ4.out; have := HK2.out; have := HJ19.out; omega⟩, ⟨rq HO_3.out⟩, ⟨rq HO_6.out⟩, ⟨bel⟩⟩
         rw [if_neg c19] at H
         have c19b0 := decide_eq_false c19
         clear c19
         have HC48 := am H
         clear H
         as_aux_lemma =>
          obtain ⟨Ao49, co49, eo49⟩ := Kd.R_slice HO_6.out
          subst eo49
          go_upto_region 12 with (fail)
          go_cut [127] (fun v127 wc => ∃ (kq : Nat) (x127_47 : Bool), v127 = .bool x127_47 ∧ Aside0 (laws_FnGuesses.j3 kq t515 t516 t517 t520 x127_47 = some r) ∧ Aside0 (kq ≤ k2) ∧ Aside0 (Kd.R Kd.string 9 wc w.heap.size (fun _ => True) (.slice Ao7 t515.length co7) t515) ∧ Aside0 (Kd.R k36 36 wc w.heap.size (fun _ => True) (.slice Ao49 t520.length co49) t520) ∧ Aside0 (Below w.heap.size w wc))
          case first =>
           have H := HC48.out
           clear HC48
           by_cases c50 : (t520.length : Int) = 10
           ·rw [if_pos c50] at H
            have c50b0 : ((t520.length : Int) == 10) = true := beq_iff_eq.mpr c50
            have c50b1 : ((t520.length : Int) != 10) = false := bne_eq_false_iff_eq.mpr c50
            clear c50
            (first | rw [c50b0] | (simp only [i64_w, i32_w]; rw [c50b0]) | skip)
            have H' := am H
            clear H
            go_wp2
            go_meet
            case rel => exact ⟨_, (true), sq, H', ⟨b37_⟩, ⟨rq HO_3.out⟩, ⟨rq HO_6.out⟩, ⟨bel⟩⟩
           rw [if_neg c50] at H
           have c50b0 : ((t520.length : Int) == 10) = false := beq_eq_false_iff_ne.mpr c50
           have c50b1 : ((t520.length : Int) != 10) = true := bne_iff_ne.mpr c50
           (first | rw [c50b0] | (simp only [i64_w, i32_w]; rw [c50b0]) | skip)
           replace H := bs H
           obtain ⟨t539, A510, H⟩ := H
           replace H : (laws_FnGuesses.j3 k2 t515 t516 t517 t520 (!t539)) = some r := H
           have A51 := Aside0.mk A510
           clear A510
           have H' := am H
           clear H
           go_wp2_with (first | (go_at_call 24; (with_reducible refine (spec_WordOk.calls k2 t516 t539 _ A51.out).mono ?_); rintro e w' ⟨rfl, ⟨nd, rfl⟩⟩))
           go_meet
           case rel => exact ⟨_, (!t539), sq, H', ⟨b37_⟩, ⟨rq HO_3.out⟩, ⟨rq HO_6.out⟩, ⟨bel⟩⟩
          case rest =>
           clear HC48
           (try clear c1)
           (try clear c2)
           (try clear p2)
           (try clear c4)
           (try clear c5)
           (try clear p5)
           (try clear q5)
           (try clear hx5)
           (try clear p6)
           (try clear c19)
           (try clear c19b0)
           (try clear c22)
           (try clear c24)
           (try clear c47)
           (try clear c50)
           (try clear c50b0)
           (try clear c50b1)
           as_aux_lemma =>
            (try clear hx527_0)
            (try clear hx527_1)
            (try clear p2)
            (try clear p5)
            (try clear p527)
            (try clear q5)
            (try clear q527)
            obtain ⟨kq, x127_47, rfl, HA, HJ47, HO_3, HO_6, HB⟩ := hcut
            cases kq with
            | zero => exact absurd HA.out (by simp [laws_FnGuesses.j3])
            | succ kj47 =>
             have H := HA.out
             clear HA
             simp only [laws_FnGuesses.j3] at H
             by_cases c52 : x127_47 = true
             ·subst c52
              have H1 : (some true) = some r := b19_
              replace H := H1
              clear H1
              obtain rfl := Option.some.inj H
              go_wp2
              go_ret
              exact ⟨eq_, bel⟩
             replace c52 := Bool.eq_false_iff.mpr c52
             subst c52
             have H1 : (laws_FnGuesses.l1 kj47 t515 t516 t517 t520 0 0) = some r := b7_
             replace H := H1
             clear H1
             have H' := am H
             clear H
             as_aux_lemma =>
              go_wp2
              go_loopg [8, 9] kj47 (fun kq v8 v9 w' => ∃ (x8_4 : Int) (x9_4 : Int), v8 = .int .i64 x8_4 ∧ v9 = .int .i64 x9_4 ∧ Aside0 (laws_FnGuesses.l1 kq t515 t516 t517 t520 x8_4 x9_4 = some r) ∧ Aside0 (kq ≤ kj47) ∧ Aside0 (Kd.R Kd.string 9 w' w.heap.size (fun _ => True) (.slice Ao7 t515.length co7) t515) ∧ Aside0 (Kd.R k36 36 w' w.heap.size (fun _ => True) (.slice Ao49 t520.length co49) t520) ∧ Aside0 (Below w.heap.size w w'))
              case atStart => exact ⟨(0), (0), sq, sq, H', ⟨Nat.le_refl _⟩, ⟨rq HO_3.out⟩, ⟨rq HO_6.out⟩, ⟨bel⟩⟩
              case round =>
               clear H'
               (try clear c1)
               (try clear c2)
               (try clear p2)
               (try clear c4)
               (try clear c5)
               (try clear p5)
               (try clear q5)
               (try clear hx5)
               (try clear p6)
               (try clear c19)
               (try clear c19b0)
               (try clear c22)
               (try clear c24)
               (try clear c47)
               (try clear c50)
               (try clear c50b0)
               (try clear c50b1)
               (try clear c52)
               as_aux_lemma =>
                (try clear p52)
                (try clear q52)
                (try clear hx52)
                (try clear hx527_0)
                (try clear hx527_1)
                (try clear p2)
                (try clear p5)
                (try clear p527)
                (try clear p6)
                (try clear q5)
                (try clear q527)
                obtain ⟨x8_4, x9_4, rfl, rfl, HA, HK4, HO_3, HO_6, HB⟩ := hrel
                cases gk with
                | zero => exact absurd HA.out (by simp [laws_FnGuesses.l1])
                | succ k4 =>
                 have H := HA.out
                 clear HA
                 simp only [laws_FnGuesses.l1] at H
                 by_cases c53 : x9_4 < (t515.length : Int)
                 ·rw [if_pos c53] at H
                  have c53b0 := decide_eq_true c53
                  clear c53
                  replace H := it H
                  obtain ⟨c54b0, H⟩ := H
                  replace H := bs H
                  obtain ⟨t541, A550, H⟩ := H
                  replace H : (if t541 ≥ 0 then (laws_FnGuesses.j5 k4 t515 t516 t517 t520 x8_4 x9_4 t541 (decide (t541 ≤ t517))) else (laws_FnGuesses.j5 k4 t515 t516 t517 t520 x8_4 x9_4 t541 false)) = some r := H
                  have A55 := Aside0.mk A550
                  clear A550
                  have HC56 := am H
                  clear H
                  as_aux_lemma =>
                   have p540 : 0 ≤ (x9_4 : Int) := of_decide_eq_true ad
                   have q540 : x9_4 < (t515.length : Int) := of_decide_eq_true ad
                   obtain ⟨ad540, e540, hx540_0⟩ := Kd.at_string (Kd.R_reads' HO_3.out).2.2 x9_4 p540 q540
                   cases e540
                   replace p540 := eq_true p540
                   replace q540 := eq_true q540
                   go_upto_region 19 with (first | ((with_reducible refine gate_callee (f := 23) rfl ?_); refine goesL_ (some 139) rfl rfl Try.func23 (by kernel_rfl) rfl #[.string (rdOf ByteArray.empty t515 x9_4), .string t516] rfl mq ?_; (with_reducible refine (impl_Far.calls k4 (rdOf ByteArray.empty t515 x9_4) t516 t541 _ A55.out).mono ?_); rintro e w57 ⟨rfl, hb⟩; refine ⟨_, rfl, ?_⟩; replace HO_3 := am (Kd.R_below (rq HO_3.out) hb); replace HO_6 := am (Kd.R_below (rq HO_6.out) hb); replace HB := am (below_step bel hb); (try clear hb); (try clear hb2); (try clear hk); (try clear hi)))
                   (try simp only [Act.put, List.setIfInBounds_toArray, List.set_cons_zero, List.set_cons_succ])
                   go_cut [146] (fun v146 wc => ∃ (kq : Nat) (x146_55 : Bool), v146 = .bool x146_55 ∧ Aside0 (laws_FnGuesses.j5 kq t515 t516 t517 t520 x8_4 x9_4 t541 x146_55 = some r) ∧ Aside0 (kq ≤ k4) ∧ Aside0 (Kd.R Kd.string 9 wc w.heap.size (fun _ => True) (.slice (some ad540) t515.length co7) t515) ∧ Aside0 (Kd.R k36 36 wc w.heap.size (fun _ => True) (.slice Ao49 t520.length co49) t520) ∧ Aside0 (Below w.heap.size w wc))
                   case first =>
                    have H := HC56.out
                    clear HC56
                    by_cases c58 : t541 ≥ 0
                    ·rw [if_pos c58] at H
                     have c58b0 := decide_eq_true c58
                     clear c58
                     (first | rw [c58b0] | (simp only [i64_w, i32_w]; rw [c58b0]) | skip)
                     have H' := am H
                     clear H
                     go_wp2
                     go_meet
                     case rel => exact ⟨_, (decide (t541 ≤ t517)), sq, H', ⟨by have := HJ4.out; have := HK2.out; have := HJ47.out; have := HK4.out; first | omega | exact Nat.le_refl _⟩, ⟨rq HO_3.out⟩, ⟨rq HO_6.out⟩, ⟨bel⟩⟩
                    rw [if_neg c58] at H
                    have c58b0 := decide_eq_false c58
                    clear c58
                    (first | rw [c58b0] | (simp only [i64_w, i32_w]; rw [c58b0]) | skip)
                    have H' := am H
                    clear H
                    go_wp2
                    go_meet
                    case rel => exact ⟨_, (false), sq, H', ⟨by have := HJ4.out; have := HK2.out; have := HJ47.out; have := HK4.out; first | omega | exact Nat.le_refl _⟩, ⟨rq HO_3.out⟩, ⟨rq HO_6.out⟩, ⟨bel⟩⟩
                   case rest =>
                    clear HC56
                    (try clear c1)
                    (try clear c2)
                    (try clear p2)
                    (try clear c4)
                    (try clear c5)
                    (try clear p5)
                    (try clear q5)
                    (try clear hx5)
                    (try clear p6)
                    (try clear c19)
                    (try clear c19b0)
                    (try clear c22)
                    (try clear c23)
                    (try clear c24)
                    (try clear c47)
                    (try clear c50)
                    (try clear c50b0)
                    (try clear c50b1)
                    (try clear c52)
                    (try clear p52)
                    (try clear q52)
                    (try clear hx52)
                    (try clear c53)
                    (try clear c53b0)
                    (try clear c54)
                    (try clear c54b0)
                    (try clear p54)
                    (try clear q54)
                    (try clear hx54)
                    (try clear c58)
                    (try clear c58b0)
                    as_aux_lemma =>
                     (try clear hx527_0)
                     (try clear hx527_1)
                     (try clear hx540_0)
                     (try clear p2)
                     (try clear p5)
                     (try clear p52)
                     (try clear p527)
                     (try clear p540)
                     (try clear p6)
                     (try clear q5)
                     (try clear q52)
                     (try clear q527)
                     (try clear q540)
                     obtain ⟨kq, x146_55, rfl, HA, HJ55, HO_3, HO_6, HB⟩ := hcut
                     cases kq with
                     | zero => exact absurd HA.out (by simp [laws_FnGuesses.j5])
                     | succ kj55 =>
                      have H := HA.out
                      clear HA
                      simp only [laws_FnGuesses.j5] at H
                      have HC59 := am H
                      clear H
                      as_aux_lemma =>
                       go_upto_if 146 with (fail)
                       go_cut [8] (fun v8 wc => ∃ (kq : Nat) (x8_58 : Int), v8 = .int .i64 x8_58 ∧ Aside0 (laws_FnGuesses.j6 kq t515 t516 t517 t520 x8_58 x9_4 t541 = some r) ∧ Aside0 (kq ≤ kj55) ∧ Aside0 (Kd.R Kd.string 9 wc w.heap.size (fun _ => True) (.slice (some ad540) t515.length co7) t515) ∧ Aside0 (Kd.R k36 36 wc w.heap.size (fun _ => True) (.slice Ao49 t520.length co49) t520) ∧ Aside0 (Below w.heap.size w wc))
                       case first =>
                        have H := HC59.out
                        clear HC59
                        by_cases c60 : x146_55 = true
                        ·subst c60
                         have H1 : (laws_FnGuesses.j6 kj55 t515 t516 t517 t520 (wrap64 (x8_4 + 1)) x9_4 t541) = some r := b19_
                         replace H := H1
                         clear H1
                         have H' := am H
                         clear H
                         go_wp2
                         go_meet
                         case rel => exact ⟨_, (wrap64 (x8_4 + 1)), sq, H', ⟨by have := HJ4.out; have := HK2.out; have := HJ47.out; have := HK4.out; have := HJ55.out; first | omega | exact Nat.le_refl _⟩, ⟨rq HO_3.out⟩, ⟨rq HO_6.out⟩, ⟨bel⟩⟩
                        replace c60 := Bool.eq_false_iff.mpr c60
                        subst c60
                        have H1 : (laws_FnGuesses.j6 kj55 t515 t516 t517 t520 x8_4 x9_4 t541) = some r := b7_
                        replace H := H1
                        clear H1
                        have H' := am H
                        clear H
                        go_wp2
                        go_meet
                        case rel => exact ⟨_, (x8_4), sq, H', ⟨by have := HJ4.out; have := HK2.out; have := HJ47.out; have := HK4.out; have := HJ55.out; first | omega | exact Nat.le_refl _⟩, ⟨rq HO_3.out⟩, ⟨rq HO_6.out⟩, ⟨bel⟩⟩
                       case rest =>
                        clear HC59
                        (try clear c1)
                        (try clear c2)
                        (try clear p2)
                        (try clear c4)
                        (try clear c5)
                        (try clear p5)
                        (try clear q5)
                        (try clear hx5)
                        (try clear c6)
                        (try clear p6)
                        (try clear c19)
                        (try clear c19b0)
                        (try clear c22)
                        (try clear c23)
                        (try clear c24)
                        (try clear c47)
                        (try clear c50)
                        (try clear c50b0)
                        (try clear c50b1)
                        (try clear c52)
                        (try clear p52)
                        (try clear q52)
                        (try clear hx52)
                        (try clear c53)
                        (try clear c53b0)
                        (try clear c54)
                        (try clear c54b0)
                        (try clear p54)
                        (try clear q54)
                        (try clear hx54)
                        (try clear c58)
                        (try clear c58b0)
                        (try clear c60)
                        as_aux_lemma =>
                         (try clear hx527_0)
                         (try clear hx527_1)
                         (try clear hx540_0)
                         (try clear p2)
                         (try clear p5)
                         (try clear p52)
                         (try clear p527)
                         (try clear p54)
                         (try clear p540)
                         (try clear p6)
                         (try clear q5)
                         (try clear q52)
                         (try clear q527)
                         (try clear q54)
                         (try clear q540)
                         obtain ⟨kq, x8_58, rfl, HA, HJ58, HO_3, HO_6, HB⟩ := hcut
                         cases kq with
                         | zero => exact absurd HA.out (by simp [laws_FnGuesses.j6])
                         | succ kj58 =>
                          have H := HA.out
                          clear HA
                          simp only [laws_FnGuesses.j6] at H
                          have HC61 := am H
                          clear H
                          as_aux_lemma =>
                           go_upto_region 21 with (fail)
                           go_cut [166] (fun v166 wc => ∃ (kq : Nat) (x166_60 : Bool), v166 = .bool x166_60 ∧ Aside0 (laws_FnGuesses.j7 kq t515 t516 t517 t520 x8_58 x9_4 x166_60 = some r) ∧ Aside0 (kq ≤ kj58) ∧ Aside0 (Kd.R Kd.string 9 wc w.heap.size (fun _ => True) (.slice (some ad540) t515.length co7) t515) ∧ Aside0 (Kd.R k36 36 wc w.heap.size (fun _ => True) (.slice Ao49 t520.length co49) t520) ∧ Aside0 (Below w.heap.size w wc))
                           case first =>
                            have H := HC61.out
                            clear HC61
                            by_cases c62 : x9_4 > 0
                            ·rw [if_pos c62] at H
                             have c62b0 := decide_eq_true c62
                             clear c62
                             (first | rw [c62b0] | (simp only [i64_w, i32_w]; rw [c62b0]) | skip)
                             obtain ⟨ji63, hji63⟩ : ∃ j_ : Int, (wrap64 (x9_4 - 1)) = j_ := ⟨_, rfl⟩
                             replace H : (if 0 ≤ (ji63) then (if (ji63) < (t515.length : Int) then (if 0 ≤ x9_4 then (if x9_4 < (t515.length : Int) then (if ((Op.bytesLess ((rdOf ByteArray.empty t515 (ji63)).toList) ((rdOf ByteArray.empty t515 x9_4).toList)) = true) then (laws_FnGuesses.j7 kj58 t515 t516 t517 t520 x8_58 x9_4 (decide (t541 < 0))) else (laws_FnGuesses.j7 kj58 t515 t516 t517 t520 x8_58 x9_4 true)) else (none)) else (none)) else (none)) else (none)) = some r := by first | (rw [hji63] at H; exact H) | (simp only [hji63] at H ⊢; exact H)
                             have hji63w : (IntKind.i64.wrap (x9_4 - 1)) = ji63 := (i64_w _).trans hji63
                             replace H := it H
                             obtain ⟨c64b0, H⟩ := H
                             replace H := it H
                             obtain ⟨c65b0, H⟩ := H
                             replace H := it H
                             obtain ⟨c66b0, H⟩ := H
                             replace H := it H
                             obtain ⟨c67b0, H⟩ := H
                             by_cases c68 : ((Op.bytesLess ((rdOf ByteArray.empty t515 (ji63)).toList) ((rdOf ByteArray.empty t515 x9_4).toList)) = true)
                             ·rw [if_pos c68] at H
                              have c68b0 : (Op.bytesLess ((rdOf ByteArray.empty t515 (ji63)).toList) ((rdOf ByteArray.empty t515 x9_4).toList)) = true := c68
                              clear c68
                              have H' := am H
                              clear H
                              try go_wp2
                              replace HO_3 := am (Kd.R_drew HO_3.out)
                              replace HO_6 := am (Kd.R_drew HO_6.out)
                              replace HB := am (below_drew1 HB.out)
                              have p542 : 0 ≤ ((ji63) : Int) := of_decide_eq_true ad
                              have q542 : (ji63) < (t515.length : Int) := of_decide_eq_true ad
                              obtain ⟨ad542, e542, hx542_0⟩ := Kd.at_string (Kd.R_reads' HO_3.out).2.2 (ji63) p542 q542
                              obtain rfl : ad540 = ad542 := (by injection e542)
                              replace p542 := eq_true p542
                              replace q542 := eq_true q542
                              have p543 : 0 ≤ (x9_4 : Int) := of_decide_eq_true ad
                              have q543 : x9_4 < (t515.length : Int) := of_decide_eq_true ad
                              obtain ⟨ad543, e543, hx543_0⟩ := Kd.at_string (Kd.R_reads' HO_3.out).2.2 x9_4 p543 q543
                              obtain rfl : ad540 = ad543 := (by injection e543)
                              replace p543 := eq_true p543
                              replace q543 := eq_true q543
                              refine st (n := 18) (S := fun w' => w'.cell? (ad540.add ((ji63)).toNat) = some (.string (rdOf ByteArray.empty t515 (ji63))) ∧ w'.cell? (ad540.add (x9_4).toNat) = some (.string (rdOf ByteArray.empty t515 x9_4))) (ds := []) ⟨hx542_0, hx543_0⟩ (fun hHeld => ?_)
                              refine with_tabW laws_FnGuesses.tab21 laws_FnGuesses.bits21 (fun HT_ HW_ => ?_)
                              generalize wc.drew = w69 at HO_3 HO_6 HB hx542_0 hx543_0 hHeld ⊢
                              refine pu 0 149 ?_
                              refine pu 1 150 ?_
                              refine pu 2 151 ?_
                              refine pu 3 152 ?_
                              refine pu 4 153 ?_
                              refine pu 5 154 ?_
                              refine pu 6 155 ?_
                              refine pu 8 157 ?_
                              refine pu 9 158 ?_
                              refine pu 10 159 ?_
                              refine tk2 7 156 hHeld ?_
                              refine tk2 11 160 hHeld ?_
                              refine pu 12 161 ?_
                              refine pu 13 162 ?_
                              refine pu 14 163 ?_
                              refine pu 15 164 ?_
                              refine pu 16 165 ?_
                              refine pu 17 166 ?_
                              refine done_ (done_of HT_.out (by kernel_rfl)) ?_
                              try go_wp2
                              go_meet
                              case rel => exact ⟨_, (decide (t541 < 0)), sq, H', ⟨b47_⟩, ⟨rq HO_3.out⟩, ⟨rq HO_6.out⟩, ⟨bel⟩⟩
                             rw [if_neg c68] at H
                             have c68b0 : (Op.bytesLess ((rdOf ByteArray.empty t515 (ji63)).toList) ((rdOf ByteArray.empty t515 x9_4).toList)) = false := by simpa using c68
                             clear c68
                             have H' := am H
                             clear H
                             try go_wp2
                             replace HO_3 := am (Kd.R_drew HO_3.out)
                             replace HO_6 := am (Kd.R_drew HO_6.out)
                             replace HB := am (below_drew1 HB.out)
                             have p542 : 0 ≤ ((ji63) : Int) := of_decide_eq_true ad
                             have q542 : (ji63) < (t515.length : Int) := of_decide_eq_true ad
                             obtain ⟨ad542, e542, hx542_0⟩ := Kd.at_string (Kd.R_reads' HO_3.out).2.2 (ji63) p542 q542
                             obtain rfl : ad540 = ad542 := (by injection e542)
                             replace p542 := eq_true p542
                             replace q542 := eq_true q542
                             have p543 : 0 ≤ (x9_4 : Int) := of_decide_eq_true ad
                             have q543 : x9_4 < (t515.length : Int) := of_decide_eq_true ad
                             obtain ⟨ad543, e543, hx543_0⟩ := Kd.at_string (Kd.R_reads' HO_3.out).2.2 x9_4 p543 q543
                             obtain rfl : ad540 = ad543 := (by injection e543)
                             replace p543 := eq_true p543
                             replace q543 := eq_true q543
                             refine st (n := 18) (S := fun w' => w'.cell? (ad540.add ((ji63)).toNat) = some (.string (rdOf ByteArray.empty t515 (ji63))) ∧ w'.cell? (ad540.add (x9_4).toNat) = some (.string (rdOf ByteArray.empty t515 x9_4))) (ds := []) ⟨hx542_0, hx543_0⟩ (fun hHeld => ?_)
                             refine with_tabW laws_FnGuesses.tab21 laws_FnGuesses.bits21 (fun HT_ HW_ => ?_)
                             generalize wc.drew = w70 at HO_3 HO_6 HB hx542_0 hx543_0 hHeld ⊢
                             refine pu 0 149 ?_
                             refine pu 1 150 ?_
                             refine pu 2 151 ?_
                             refine pu 3 152 ?_
                             refine pu 4 153 ?_
                             refine pu 5 154 ?_
                             refine pu 6 155 ?_
                             refine pu 8 157 ?_
                             refine pu 9 158 ?_
                             refine pu 10 159 ?_
                             refine tk2 7 156 hHeld ?_
                             refine tk2 11 160 hHeld ?_
                             refine pu 12 161 ?_
                             refine pu 13 162 ?_
                             refine pu 14 163 ?_
                             refine puu 15 164 ?_
                             refine puu 16 165 ?_
                             refine pu 17 166 ?_
                             refine done_ (done_of HT_.out (by kernel_rfl)) ?_
                             try go_wp2
                             go_meet
                             case rel => exact ⟨_, (true), sq, H', ⟨b47_⟩, ⟨rq HO_3.out⟩, ⟨rq HO_6.out⟩, ⟨bel⟩⟩
                            rw [if_neg c62] at H
                            have c62b0 := decide_eq_false c62
                            clear c62
                            (first | rw [c62b0] | (simp only [i64_w, i32_w]; rw [c62b0]) | skip)
                            have H' := am H
                            clear H
                            try go_wp2
                            replace HO_3 := am (Kd.R_drew HO_3.out)
                            replace HO_6 := am (Kd.R_drew HO_6.out)
                            replace HB := am (below_drew1 HB.out)
                            refine st (n := 18) (S := fun w' => True) (ds := []) trivial (fun hHeld => ?_)
                            refine with_tabW laws_FnGuesses.tab21 laws_FnGuesses.bits21 (fun HT_ HW_ => ?_)
                            generalize wc.drew = w71 at HO_3 HO_6 HB hHeld ⊢
                            refine pu 0 149 ?_
                            refine pu 1 150 ?_
                            refine pu 2 151 ?_
                            refine puu 3 152 ?_
                            refine puu 4 153 ?_
                            refine puu 5 154 ?_
                            refine puu 6 155 ?_
                            refine puu 7 156 ?_
                            refine puu 8 157 ?_
                            refine puu 9 158 ?_
                            refine puu 10 159 ?_
                            refine puu 11 160 ?_
                            refine puu 12 161 ?_
                            refine pu 13 162 ?_
                            refine pu 14 163 ?_
                            refine pu 15 164 ?_
                            refine pu 16 165 ?_
                            refine pu 17 166 ?_
                            refine done_ (done_of HT_.out (by kernel_rfl)) ?_
                            try go_wp2
                            go_meet
                            case rel => exact ⟨_, (decide (t541 < 0)), sq, H', ⟨b47_⟩, ⟨rq HO_3.out⟩, ⟨rq HO_6.out⟩, ⟨bel⟩⟩
                           case rest =>
                            clear HC61
                            (try clear c1)
                            (try clear c2)
                            (try clear p2)
                            (try clear c4)
                            (try clear c5)
                            (try clear p5)
                            (try clear q5)
                            (try clear hx5)
                            (try clear c6)
                            (try clear p6)
                            (try clear c19)
                            (try clear c19b0)
                            (try clear c22)
                            (try clear c23)
                            (try clear c24)
                            (try clear c47)
                            (try clear c50)
                            (try clear c50b0)
                            (try clear c50b1)
                            (try clear c52)
                            (try clear p52)
                            (try clear q52)
                            (try clear hx52)
                            (try clear c53)
                            (try clear c53b0)
                            (try clear c54)
                            (try clear c54b0)
                            (try clear p54)
                            (try clear q54)
                            (try clear hx54)
                            (try clear c58)
                            (try clear c58b0)
                            (try clear c60)
                            (try clear c62)
                            (try clear c62b0)
                            (try clear c64)
                            (try clear c64b0)
                            (try clear p64)
                            (try clear c65)
                            (try clear c65b0)
                            (try clear c66)
                            (try clear c66b0)
                            (try clear c67)
                            (try clear c67b0)
                            (try clear c68)
                            (try clear c68b0)
                            as_aux_lemma =>
                             (try clear hx527_0)
                             (try clear hx527_1)
                             (try clear hx540_0)
                             (try clear hx542_0)
                             (try clear hx543_0)
                             (try clear p2)
                             (try clear p5)
                             (try clear p52)
                             (try clear p527)
                             (try clear p54)
                             (try clear p540)
                             (try clear p542)
                             (try clear p543)
                             (try clear p6)
                             (try clear q5)
                             (try clear q52)
                             (try clear q527)
                             (try clear q54)
                             (try clear q540)
                             (try clear q542)
                             (try clear q543)
                             obtain ⟨kq, x166_60, rfl, HA, HJ60, HO_3, HO_6, HB⟩ := hcut
                             cases kq with
                             | zero => exact absurd HA.out (by simp [laws_FnGuesses.j7])
                             | succ kj60 =>
                              have H := HA.out
                              clear HA
                              simp only [laws_FnGuesses.j7] at H
                              by_cases c72 : x166_60 = true
                              ·subst c72
                               have H1 : (some true) = some r := b19_
                               replace H := H1
                               clear H1
                               obtain rfl := Option.some.inj H
                               go_wp2
                               go_ret
                               exact ⟨eq_, bel⟩
                              replace c72 := Bool.eq_false_iff.mpr c72
                              subst c72
                              have H1 : (laws_FnGuesses.l1 kj60 t515 t516 t517 t520 x8_58 (wrap64 (x9_4 + 1))) = some r := b7_
                              replace H := H1
                              clear H1
                              have H' := am H
                              clear H
                              go_wp2
                              go_roundg kj60
                              case measure => have := HJ4.out; have := HK2.out; have := HJ47.out; have := HK4.out; have := HJ55.out; have := HJ58.out; have := HJ60.out; omega
                              case rel => exact ⟨(x8_58), (wrap64 (x9_4 + 1)), sq, sq, H', ⟨by have := HJ4.out; have := HK2.out; have := HJ47.out; have := HK4.out; have := HJ55.out; have := HJ58.out; have := HJ60.out; omega⟩, ⟨rq HO_3.out⟩, ⟨rq HO_6.out⟩, ⟨bel⟩⟩
                 rw [if_neg c53] at H
                 have c53b0 := decide_eq_false c53
                 clear c53
                 obtain rfl := Option.some.inj H
                 go_wp2
                 go_ret
                 exact ⟨eq_, bel⟩

/-- THE ONE PURE STATEMENT of laws_FnGuesses: yours. -/
def laws_FnGuesses.Pure : Prop := ∀ (l0 : List Int), l0.length ≤ maxLen → l0.length * 1 ≤ 140737488351232 → (∀ x ∈ l0, (Lit.int .u8 x).wf = true) → ∃ k, laws_FnGuesses.f k l0 = some true
theorem laws_FnGuesses.walk (P : laws_FnGuesses.Pure) (a0 : Option Addr) (len0 cap0 : Nat) (z0 : List Int) (w : World) (w0 : (a0 = none ∧ len0 = 0 ∧ cap0 = 0 ∧ z0 = []) ∨ ∃ x, a0 = some x ∧ len0 ≤ cap0 ∧ cap0 ≤ maxLen ∧ z0.length = cap0 ∧ (∀ i, i < z0.length → w.cell? (x.add i) = some (.int .u8 (z0.getD i 0))) ∧ ∀ n ∈ z0, (Lit.int .u8 n).wf = true) (y0 : len0 * 1 ≤ 140737488351232) :
  Calls Try.prog 4 #[.slice a0 len0 cap0] w fun e w' => e = .returned (.bool true) ∧ Below w.heap.size w w' := by
 obtain ⟨l0, rfl, hr0, hm0, hw0, hc0⟩ := ReadsInt.ofRowC w0; obtain ⟨k, h⟩ := P l0 hm0 y0 hw0
 refine (laws_FnGuesses.calls k _ _ l0 true w (Kd.C_of_reads (d := (0 : Int)) (h1 := fun _ => rfl) hr0) hc0 h).mono ?_
 rintro e w' ⟨rfl, hd⟩
 exact ⟨rfl, hd⟩
end Go.Proofs.Ytfpmfaelodfecaa.QFnGuesses
